import PyProof.Rows.All
import Wide.All
import OpenK.AllK
import Wide.FinOn
import HandS.ForMost
import KE.DataMinMax
import KE.DataAny
import KE.DataIsa
import KE.DataFind
import KE.SortData
import KE.DatumOrd
import KE.DatumMoreOrd
import KE.KDictKeyed
import HandS.TupAny
import HandS.Conv
import HandS.More
import HandS.IsInst
import HandS.Flow
import HandS.Small
import KE.KDictPairs
import HandS.Style
import KE.GoesEnum
import KE.GoesZip
import KE.GoesMore
import HandS.Text
import PySem.Challenge.RW_fuseslit_k44_whole_lengths_saved
set_option Elab.async false
set_option linter.all false
set_option maxRecDepth 100000
namespace PyD
open PySem PySem.Spec L2
open PyProof.Rows hiding St
abbrev D := PyData

def nf : HO → Bool
  | .frz _ _ => false
  | _ => true
theorem rd_up {H H' : Hp} {a : Addr} {u : HO} (h : Rd H a u) (k : ∀ o, H a = some o → H' a = some o) : Rd H' a u := by
  rcases h with h | ⟨o, h⟩
  · exact .inl (k _ h)
  · exact .inr ⟨o, k _ h⟩
/-- the heap with the locks undone -/
def unl (L : List (Addr × Obj × HO)) (H : Hp) : Hp := fun b => match L.lookup b with
  | some u => some u.2
  | none => H b
theorem unl_none {L : List (Addr × Obj × HO)} {H : Hp} {b : Addr} (h : L.lookup b = none) : unl L H b = H b := by unfold unl; rw [h]
theorem unl_some {L : List (Addr × Obj × HO)} {H : Hp} {b : Addr} {u : Obj × HO} (h : L.lookup b = some u) : unl L H b = some u.2 := by unfold unl; rw [h]
theorem unl_nil {H : Hp} : unl [] H = H := rfl
/-- the locks stand -/
def Lkd (L : List (Addr × Obj × HO)) (H : Hp) : Prop := ∀ b u, L.lookup b = some u → Mut (some u.2) ∧ H b = some (.frz u.1 u.2)
theorem Lkd.rd {L : List (Addr × Obj × HO)} {H : Hp} (l : Lkd L H) {b : Addr} {u : HO} (h : Rd (unl L H) b u) : Rd H b u := by
  cases e : L.lookup b with
  | none =>
    rcases h with h | ⟨o, h⟩
    · rw [unl_none e] at h; exact .inl h
    · rw [unl_none e] at h; exact .inr ⟨o, h⟩
  | some w =>
    obtain ⟨mu, ho⟩ := l b w e
    rcases h with h | ⟨o', h⟩
    · rw [unl_some e] at h; cases h; exact .inr ⟨_, ho⟩
    · rw [unl_some e] at h; rw [Option.some.inj h] at mu; exact False.elim mu
theorem Lkd.dr {L : List (Addr × Obj × HO)} {H : Hp} (l : Lkd L H) {b : Addr} {u : HO} (hu : nf u = true) (h : Rd H b u) : Rd (unl L H) b u := by
  cases e : L.lookup b with
  | none =>
    rcases h with h | ⟨o, h⟩
    · exact .inl ((unl_none e).trans h)
    · exact .inr ⟨o, (unl_none e).trans h⟩
  | some w =>
    obtain ⟨mu, ho⟩ := l b w e
    rcases h with h | ⟨o', h⟩
    · rw [ho] at h; cases h; exact absurd hu (by simp [nf])
    · rw [ho] at h; cases h; first | exact .inl (unl_some e) | exact .inl (by rw [unl_some e])
theorem Lkd.free {L : List (Addr × Obj × HO)} {H : Hp} (l : Lkd L H) {p : Addr} (h : H p = none) : L.lookup p = none := by
  cases e : L.lookup p with
  | none => rfl
  | some w => obtain ⟨_, ho⟩ := l p w e; rw [h] at ho; cases ho
theorem unl_upd {L : List (Addr × Obj × HO)} {H : Hp} {p : Addr} {o : HO} (h : L.lookup p = none) : unl L (upd H p o) = upd (unl L H) p o := by
  funext b
  by_cases e : b = p
  · subst e; rw [unl_none h, upd_same, upd_same]
  · rw [upd_ne e]
    cases q : L.lookup b with
    | none => rw [unl_none q, unl_none q, upd_ne e]
    | some w => rw [unl_some q, unl_some q]

def keyD : Key → D
  | .inl i => .int i
  | .inr x => .str x
/-- a dict as data: the first pair tells the kind of its keys -/
abbrev dK (es : List (D × D)) : D := .dict ((.none, .none) :: es)
abbrev dT (es : List (D × D)) : D := .dict ((.none, .bool true) :: es)
/-- a tuple's place: of one whose items are all objects the object is known (it has no dict of its own) -/
def isRf : V → Bool
  | .ref _ => true
  | _ => false
def tupH (xs : List V) (o : Obj) : HO := if xs.all isRf = true then .frz o (.tup xs) else .tup xs
def TupR (H : Hp) (a : Addr) (xs : List V) : Prop := ∃ o : Obj, o.dict = none ∧ H a = some (tupH xs o)
theorem tupH_key {k : List Key} (h : k ≠ []) (o : Obj) : tupH (k.map kV) o = .tup (k.map kV) := by
  unfold tupH
  rw [if_neg]
  cases k with
  | nil => exact absurd rfl h
  | cons x k => cases x <;> simp [isRf, kV]
theorem tupH_rd {H : Hp} {a : Addr} {xs : List V} {o : Obj} (h : H a = some (tupH xs o)) : Rd H a (.tup xs) := by
  unfold tupH at h
  split at h
  · exact .inr ⟨_, h⟩
  · exact .inl h
theorem TupR.rd {H : Hp} {a : Addr} {xs : List V} (h : TupR H a xs) : Rd H a (.tup xs) := by
  obtain ⟨o, _, h⟩ := h
  exact tupH_rd h
/-- a tuple of the written part -/
def WrT (K : PySem.W.Frag) (a : Addr) (xs : List V) : Prop :=
  ∃ (o : Obj) (its : Array Value) (n : Nat), K.lookup a = some o ∧ o.cls = .type "tuple" ∧ o.data = .seq its n ∧ its.size ≤ sizeLine ∧ Vals xs its.toList
mutual
inductive Rep (K : PySem.W.Frag) (av : Addr → Prop) (H : Hp) : V → D → Prop
  | non : Rep K av H .non .none
  | bl (b : Bool) : Rep K av H (.bl b) (.bool b)
  | int (i : Int) : Rep K av H (.int i) (.int i)
  | str (x : Str) : Rep K av H (.str x) (.str x)
  | lst {a : Addr} {xs : List V} {ds : List D} : ¬ av a → Rd H a (.lst xs) → xs.length ≤ sizeLine → RepA K av H xs ds → Rep K av H (.ref a) (.list ds)
  | tup {a : Addr} {xs : List V} {ds : List D} : ¬ av a → TupR H a xs → xs.length ≤ sizeLine → RepA K av H xs ds → Rep K av H (.ref a) (.tuple ds)
  | dcK {a : Addr} {kvs : List (Key × V)} {es : List (D × D)} : ¬ av a → Rd H a (.dK kvs) → RepK K av H kvs es → Rep K av H (.ref a) (dK es)
  | dcT {a : Addr} {kvs : List (List Key × V)} {es : List (D × D)} : ¬ av a → Rd H a (.dT kvs) → RepT K av H kvs es → Rep K av H (.ref a) (dT es)
inductive RepA (K : PySem.W.Frag) (av : Addr → Prop) (H : Hp) : List V → List D → Prop
  | nil : RepA K av H [] []
  | cons {v : V} {vs : List V} {d : D} {ds : List D} : Rep K av H v d → RepA K av H vs ds → RepA K av H (v :: vs) (d :: ds)
inductive RepK (K : PySem.W.Frag) (av : Addr → Prop) (H : Hp) : List (Key × V) → List (D × D) → Prop
  | nil : RepK K av H [] []
  | cons {k : Key} {v : V} {vs : List (Key × V)} {d : D} {ds : List (D × D)} : Rep K av H v d → RepK K av H vs ds → RepK K av H ((k, v) :: vs) ((keyD k, d) :: ds)
inductive RepT (K : PySem.W.Frag) (av : Addr → Prop) (H : Hp) : List (List Key × V) → List (D × D) → Prop
  | nil : RepT K av H [] []
  | cons {k : List Key} {v : V} {vs : List (List Key × V)} {d : D} {ds : List (D × D)} : k ≠ [] → Rep K av H v d → RepT K av H vs ds → RepT K av H ((k, v) :: vs) ((.tuple (k.map keyD), d) :: ds)
end

section
variable {K : PySem.W.Frag} {av av' : Addr → Prop} {H H' : Hp}
/-- what is not kept back stays as it is, and is not kept back -/
structure Cm (av av' : Addr → Prop) (H H' : Hp) : Prop where
  na : ∀ b o, ¬ av b → H b = some o → ¬ av' b
  rd : ∀ b u, nf u = true → ¬ av b → Rd H b u → Rd H' b u
  tp : ∀ b (p : List V × Obj), ¬ av b → H b = some (tupH p.1 p.2) → H' b = some (tupH p.1 p.2)
theorem Cm.nr (k : Cm av av' H H') {b : Addr} {u : HO} (n : ¬ av b) (r : Rd H b u) : ¬ av' b := by
  rcases r with r | ⟨o, r⟩
  · exact k.na b _ n r
  · exact k.na b _ n r
mutual
theorem Rep.mono (k : Cm av av' H H') : ∀ {v : V} {d : D}, Rep K av H v d → Rep K av' H' v d
  | _, _, .non => .non
  | _, _, .bl b => .bl b
  | _, _, .int i => .int i
  | _, _, .str x => .str x
  | _, _, .lst h r z a => .lst (k.nr h r) (k.rd _ _ rfl h r) z (RepA.mono k a)
  | _, _, .tup h r z a => .tup (k.nr h r.rd) (let ⟨o, d, e⟩ := r; ⟨o, d, k.tp _ (_, o) h e⟩) z (RepA.mono k a)
  | _, _, .dcK h r a => .dcK (k.nr h r) (k.rd _ _ rfl h r) (RepK.mono k a)
  | _, _, .dcT h r a => .dcT (k.nr h r) (k.rd _ _ rfl h r) (RepT.mono k a)
theorem RepA.mono (k : Cm av av' H H') : ∀ {vs : List V} {ds : List D}, RepA K av H vs ds → RepA K av' H' vs ds
  | _, _, .nil => .nil
  | _, _, .cons h t => .cons (Rep.mono k h) (RepA.mono k t)
theorem RepK.mono (k : Cm av av' H H') : ∀ {vs : List (Key × V)} {ds : List (D × D)}, RepK K av H vs ds → RepK K av' H' vs ds
  | _, _, .nil => .nil
  | _, _, .cons h t => .cons (Rep.mono k h) (RepK.mono k t)
theorem RepT.mono (k : Cm av av' H H') : ∀ {vs : List (List Key × V)} {ds : List (D × D)}, RepT K av H vs ds → RepT K av' H' vs ds
  | _, _, .nil => .nil
  | _, _, .cons n h t => .cons n (Rep.mono k h) (RepT.mono k t)
end
theorem RepA.len : ∀ {vs : List V} {ds : List D}, RepA K av H vs ds → vs.length = ds.length
  | _, _, .nil => rfl
  | _, _, .cons _ t => by rw [List.length_cons, List.length_cons, RepA.len t]
theorem RepK.len : ∀ {vs : List (Key × V)} {ds : List (D × D)}, RepK K av H vs ds → vs.length = ds.length
  | _, _, .nil => rfl
  | _, _, .cons _ t => by rw [List.length_cons, List.length_cons, RepK.len t]
theorem RepT.len : ∀ {vs : List (List Key × V)} {ds : List (D × D)}, RepT K av H vs ds → vs.length = ds.length
  | _, _, .nil => rfl
  | _, _, .cons _ _ t => by rw [List.length_cons, List.length_cons, RepT.len t]
theorem RepA.get : ∀ {vs : List V} {ds : List D} (_ : RepA K av H vs ds) {i : Nat} {d : D}, ds[i]? = some d → ∃ v, vs[i]? = some v ∧ Rep K av H v d
  | _, _, .nil, _, _, e => by simp at e
  | _, _, .cons h _, 0, _, e => by simp at e; subst e; exact ⟨_, rfl, h⟩
  | _, _, .cons _ t, i + 1, _, e => by
    obtain ⟨v, e1, r⟩ := RepA.get t (i := i) (by simpa using e)
    exact ⟨v, by simpa using e1, r⟩
theorem RepA.got : ∀ {vs : List V} {ds : List D} (_ : RepA K av H vs ds) {i : Nat} {v : V}, vs[i]? = some v → ∃ d, ds[i]? = some d ∧ Rep K av H v d
  | _, _, .nil, _, _, e => by simp at e
  | _, _, .cons h _, 0, _, e => by simp at e; subst e; exact ⟨_, rfl, h⟩
  | _, _, .cons _ t, i + 1, _, e => by
    obtain ⟨v, e1, r⟩ := RepA.got t (i := i) (by simpa using e)
    exact ⟨v, by simpa using e1, r⟩
theorem RepA.app : ∀ {vs ws : List V} {ds es : List D}, RepA K av H vs ds → RepA K av H ws es → RepA K av H (vs ++ ws) (ds ++ es)
  | _, _, _, _, .nil, b => b
  | _, _, _, _, .cons h t, b => .cons h (RepA.app t b)
theorem RepA.take : ∀ {vs : List V} {ds : List D} (n : Nat), RepA K av H vs ds → RepA K av H (vs.take n) (ds.take n)
  | _, _, 0, _ => .nil
  | _, _, _ + 1, .nil => .nil
  | _, _, n + 1, .cons h t => .cons h (RepA.take n t)
theorem RepA.drop : ∀ {vs : List V} {ds : List D} (n : Nat), RepA K av H vs ds → RepA K av H (vs.drop n) (ds.drop n)
  | _, _, 0, h => h
  | _, _, _ + 1, .nil => .nil
  | _, _, n + 1, .cons _ t => RepA.drop n t
theorem RepA.rev : ∀ {vs : List V} {ds : List D}, RepA K av H vs ds → RepA K av H vs.reverse ds.reverse
  | _, _, .nil => .nil
  | _, _, .cons h t => by rw [List.reverse_cons, List.reverse_cons]; exact RepA.app (RepA.rev t) (.cons h .nil)
theorem RepA.set {x : V} {d : D} (h : Rep K av H x d) : ∀ {vs : List V} {ds : List D} (i : Nat), RepA K av H vs ds → RepA K av H (vs.set i x) (ds.set i d)
  | _, _, _, .nil => .nil
  | _, _, 0, .cons _ t => .cons h t
  | _, _, i + 1, .cons r t => .cons r (RepA.set h i t)
/-- what may be looked at: what may be kept, or an own list or dict -/
inductive Top (K : PySem.W.Frag) (bx av : Addr → Prop) (H : Hp) : V → D → Prop
  | rep {v : V} {d : D} : Rep K av H v d → Top K bx av H v d
  | wrt {a : Addr} {xs : List V} {ds : List D} : WrT K a xs → xs.length ≤ sizeLine → RepA K av H xs ds → (∃ o, K.lookup a = some o ∧ o.dict = none) → Top K bx av H (.ref a) (.tuple ds)
  | lst {a : Addr} {xs : List V} {ds : List D} : ¬ bx a → Rd H a (.lst xs) → xs.length ≤ sizeLine → RepA K av H xs ds → Top K bx av H (.ref a) (.list ds)
  | dcK {a : Addr} {kvs : List (Key × V)} {es : List (D × D)} : ¬ bx a → Rd H a (.dK kvs) → RepK K av H kvs es → Top K bx av H (.ref a) (dK es)
  | dcT {a : Addr} {kvs : List (List Key × V)} {es : List (D × D)} : ¬ bx a → Rd H a (.dT kvs) → RepT K av H kvs es → Top K bx av H (.ref a) (dT es)
theorem Top.mono {bx : Addr → Prop} (k : ∀ b u, nf u = true → ¬ bx b → Rd H b u → Rd H' b u) (ka : Cm av av' H H') {v : V} {d : D} (h : Top K bx av H v d) : Top K bx av' H' v d := by
  cases h with
  | rep r => exact .rep (r.mono ka)
  | wrt w z a d => exact .wrt w z (a.mono ka) d
  | lst n r z a => exact .lst n (k _ _ rfl n r) z (a.mono ka)
  | dcK n r a => exact .dcK n (k _ _ rfl n r) (a.mono ka)
  | dcT n r a => exact .dcT n (k _ _ rfl n r) (a.mono ka)
/-- what an own name holds: a list or dict that may be written -/
inductive Own (K : PySem.W.Frag) (av : Addr → Prop) (H : Hp) (a : Addr) : D → Prop
  | lst {xs : List V} {ds : List D} : H a = some (.lst xs) → xs.length ≤ sizeLine → RepA K av H xs ds → Own K av H a (.list ds)
  | dcK {kvs : List (Key × V)} {es : List (D × D)} : H a = some (.dK kvs) → RepK K av H kvs es → Own K av H a (dK es)
  | dcT {kvs : List (List Key × V)} {es : List (D × D)} : H a = some (.dT kvs) → RepT K av H kvs es → Own K av H a (dT es)
theorem Own.top {bx : Addr → Prop} {a : Addr} {d : D} (h : Own K av H a d) (n : ¬ bx a) : Top K bx av H (.ref a) d := by
  cases h with
  | lst r z a => exact .lst n (.inl r) z a
  | dcK r a => exact .dcK n (.inl r) a
  | dcT r a => exact .dcT n (.inl r) a
theorem Own.mono (k : Cm av av' H H') {a : Addr} (ka : H' a = H a) {d : D} (h : Own K av H a d) : Own K av' H' a d := by
  cases h with
  | lst r z a => exact .lst (ka.trans r) z (a.mono k)
  | dcK r a => exact .dcK (ka.trans r) (a.mono k)
  | dcT r a => exact .dcT (ka.trans r) (a.mono k)
theorem Own.some {a : Addr} {d : D} (h : Own K av H a d) : ∃ o, H a = some o ∧ Mut (some o) := by
  cases h with
  | lst r _ _ => exact ⟨_, r, trivial⟩
  | dcK r _ => exact ⟨_, r, trivial⟩
  | dcT r _ => exact ⟨_, r, trivial⟩
/-- it may be handed on -/
theorem Own.rep {a : Addr} {d : D} (h : Own K av H a d) (ha : ¬ av a) : Rep K av H (.ref a) d := by
  cases h with
  | lst r z a => exact .lst ha (.inl r) z a
  | dcK r a => exact .dcK ha (.inl r) a
  | dcT r a => exact .dcT ha (.inl r) a
end
end PyD
namespace PyD
open PySem PySem.Spec L2
open PyProof.Rows hiding St
abbrev En := List (Option D)
abbrev ME := En → (D → Prop) → Prop
abbrev MT := En → (Bool → Prop) → Prop
abbrev MA := En → (List D → Prop) → Prop

/-- what is known of a def's names: those that own a list or dict, those of these that are walked, the box's slot, what holds of the box -/
structure SI where
  own : List Nat := []
  lk : List Nat := []
  bs : Option Nat := none
  bk : Hp → Addr → Addr → Prop := fun _ _ _ => True
def ntup : HO → Bool
  | .tup _ => false
  | .frz _ (.tup _) => false
  | _ => true
/-- the heap at the def's entry, what is not to be handed on, the box, the locks -/
structure DW where
  H0 : Hp
  av : Addr → Prop
  box : Option (Addr × Addr)
  L : List (Addr × Obj × HO)
def DW.bx (W : DW) (b : Addr) : Prop := ∃ p, W.box = some p ∧ (b = p.1 ∨ b = p.2)
def avA (W : DW) (own : List Nat) (σ : St) (ρ : En) (b : Addr) : Prop := W.av b ∨ ∃ i, i ∈ own ∧ (∃ d, ρ[i]? = some (some d)) ∧ σ[i]? = some (some (.ref b))
structure WOk (I : SI) (W : DW) : Prop where
  bxav : ∀ b, W.bx b → W.av b
  lbx : ∀ b, W.bx b → W.L.lookup b = none
  bkst : ∀ H H' a c, H a = H' a → H c = H' c → I.bk H a c → I.bk H' a c
structure SR (I : SI) (W : DW) (K : PySem.W.Frag) (σ : St) (H : Hp) (ρ : En) : Prop where
  len : ρ.length = σ.length
  lkd : Lkd W.L H
  val : ∀ i d, ρ[i]? = some (some d) → i ∉ I.own → ∃ v, σ[i]? = some (some v) ∧ Rep K (avA W I.own σ ρ) (unl W.L H) v d
  own : ∀ i d, ρ[i]? = some (some d) → i ∈ I.own → ∃ a, σ[i]? = some (some (.ref a)) ∧ Own K (avA W I.own σ ρ) (unl W.L H) a d ∧ ¬ W.av a ∧ W.H0 a = none ∧ (i ∉ I.lk → W.L.lookup a = none)
  inj : ∀ i j a, i ∈ I.own → j ∈ I.own → (∃ d, ρ[i]? = some (some d)) → (∃ d, ρ[j]? = some (some d)) → σ[i]? = some (some (.ref a)) → σ[j]? = some (some (.ref a)) → i = j
  fr : ∀ b o, W.H0 b = some o → ¬ W.bx b → unl W.L H b = some o
  avt : ∀ b, W.av b → ∃ o, unl W.L H b = some o ∧ ntup o = true
  box : ∀ p, W.box = some p → I.bk (unl W.L H) p.1 p.2
  bsl : ∀ i, I.bs = some i → ∃ p, W.box = some p ∧ σ[i]? = some (some (.ref p.1))
/-- behind an expression -/
def Ex (W : DW) (H H' : Hp) : Prop := ∀ b o, unl W.L H b = some o → ¬ W.bx b → unl W.L H' b = some o
theorem Ex.refl (W : DW) (H : Hp) : Ex W H H := fun _ _ h _ => h
theorem Ex.trans {W : DW} {H H1 H2 : Hp} (a : Ex W H H1) (b : Ex W H1 H2) : Ex W H H2 := fun c o h n => b c o (a c o h n) n
section
variable {I : SI} {W : DW} {K : PySem.W.Frag} {σ : St} {H H' : Hp} {ρ : En}
theorem Ex.rd (e : Ex W H H') {b : Addr} {u : HO} (h : Rd (unl W.L H) b u) (n : ¬ W.bx b) : Rd (unl W.L H') b u := rd_up h fun o q => e b o q n
theorem Ex.keep (ok : WOk I W) (e : Ex W H H') : Cm (avA W I.own σ ρ) (avA W I.own σ ρ) (unl W.L H) (unl W.L H') :=
  ⟨fun _ _ n _ => n, fun b u _ n r => e.rd r fun z => n (.inl (ok.bxav b z)), fun b xs n r => e b _ r fun z => n (.inl (ok.bxav b z))⟩
theorem Ex.rep (ok : WOk I W) (e : Ex W H H') {v : V} {d : D} (r : Rep K (avA W I.own σ ρ) (unl W.L H) v d) : Rep K (avA W I.own σ ρ) (unl W.L H') v d := r.mono (e.keep ok)
theorem Ex.repA (ok : WOk I W) (e : Ex W H H') {v : List V} {d : List D} (r : RepA K (avA W I.own σ ρ) (unl W.L H) v d) : RepA K (avA W I.own σ ρ) (unl W.L H') v d := r.mono (e.keep ok)
theorem SR.ownbx (ok : WOk I W) (S : SR I W K σ H ρ) {i : Nat} {d : D} (e : ρ[i]? = some (some d)) (hi : i ∈ I.own) {a : Addr} (ha : σ[i]? = some (some (.ref a))) : ¬ W.bx a := fun z => by
  obtain ⟨a', e', _, n, _⟩ := S.own i d e hi
  rw [ha] at e'; cases e'
  exact n (ok.bxav a z)
theorem SR.step (ok : WOk I W) (S : SR I W K σ H ρ) (e : Ex W H H') (lk : Lkd W.L H') (bx : ∀ p, W.box = some p → I.bk (unl W.L H') p.1 p.2) (bt : ∀ b, W.bx b → ∃ o, unl W.L H' b = some o ∧ ntup o = true) : SR I W K σ H' ρ where
  len := S.len
  lkd := lk
  val := fun i d h n => let ⟨v, a, r⟩ := S.val i d h n; ⟨v, a, e.rep ok r⟩
  own := fun i d h n => by
    obtain ⟨a, h1, o, h2, h3, h4⟩ := S.own i d h n
    refine ⟨a, h1, o.mono (e.keep ok) ?_, h2, h3, h4⟩
    obtain ⟨u, hu, _⟩ := o.some
    rw [hu]; exact e a u hu (S.ownbx ok h n h1)
  inj := S.inj
  fr := fun b o h n => e b o (S.fr b o h n) n
  avt := fun b h => by
    by_cases hb : W.bx b
    · exact bt b hb
    · obtain ⟨o, q, m⟩ := S.avt b h; exact ⟨o, e b o q hb, m⟩
  box := bx
  bsl := S.bsl
/-- a new object -/
theorem Ex.new {p : Addr} {o : HO} (lk : Lkd W.L H) (h : H p = none) : Ex W H (upd H p o) := fun b u e _ => by
  have hl := lk.free h
  rw [unl_upd hl, upd_ne, e]
  rintro rfl
  rw [unl_none hl, h] at e; cases e
theorem lkd_new {L : List (Addr × Obj × HO)} {p : Addr} {o : HO} (lk : Lkd L H) (h : H p = none) : Lkd L (upd H p o) := fun b u e => by
  obtain ⟨m, q⟩ := lk b u e
  refine ⟨m, ?_⟩
  rw [upd_ne, q]
  rintro rfl
  rw [h] at q; cases q
theorem SR.new (ok : WOk I W) (S : SR I W K σ H ρ) {p : Addr} {o : HO} (h : H p = none) : SR I W K σ (upd H p o) ρ := by
  have e : Ex W H (upd H p o) := Ex.new S.lkd h
  have hl := S.lkd.free h
  have hp : ∀ b, W.av b → b ≠ p := fun b hb z => by
    obtain ⟨u, q, _⟩ := S.avt b hb
    rw [z, unl_none hl, h] at q; cases q
  refine S.step ok e (lkd_new S.lkd h) (fun q hq => ?_) fun b hb => ?_
  · refine ok.bkst _ _ _ _ ?_ ?_ (S.box q hq)
    · rw [unl_upd hl, upd_ne (hp _ (ok.bxav _ ⟨q, hq, .inl rfl⟩))]
    · rw [unl_upd hl, upd_ne (hp _ (ok.bxav _ ⟨q, hq, .inr rfl⟩))]
  · obtain ⟨u, q, m⟩ := S.avt b (ok.bxav b hb)
    exact ⟨u, by rw [unl_upd hl, upd_ne (hp b (ok.bxav b hb))]; exact q, m⟩
/-- a new address is not among those that are kept back -/
theorem SR.fresh (S : SR I W K σ H ρ) {p : Addr} (h : H p = none) : ¬ avA W I.own σ ρ p := by
  have hl := S.lkd.free h
  rintro (z | ⟨i, hi, ⟨d, hd⟩, hs⟩)
  · obtain ⟨u, q, _⟩ := S.avt p z
    rw [unl_none hl, h] at q; cases q
  · obtain ⟨a, h1, o, _⟩ := S.own i d hd hi
    rw [hs] at h1; cases h1
    obtain ⟨u, q, _⟩ := o.some
    rw [unl_none hl, h] at q; cases q
/-- a tuple is not among those that are kept back -/
theorem SR.tupAv (S : SR I W K σ H ρ) {p : Addr} {xs : List V} (h : unl W.L H p = some (.tup xs)) : ¬ avA W I.own σ ρ p := by
  rintro (z | ⟨i, hi, ⟨d, hd⟩, hs⟩)
  · obtain ⟨u, q, m⟩ := S.avt p z
    rw [h] at q; cases q; exact absurd m (by simp [ntup])
  · obtain ⟨a, h1, o, _⟩ := S.own i d hd hi
    rw [hs] at h1; cases h1
    obtain ⟨u, q, m⟩ := o.some
    rw [h] at q; cases q; exact m
theorem SR.freshU (S : SR I W K σ H ρ) {p : Addr} (h : H p = none) : unl W.L H p = none := by rw [unl_none (S.lkd.free h), h]
end

/-- what is wanted behind an expression -/
def FinE (I : SI) (W : DW) (K : PySem.W.Frag) (σ : St) (ρ : En) (H : Hp) (Qd : D → Prop) (Q : VK) : Prop :=
  ∀ v H' d, Qd d → Ex W H H' → SR I W K σ H' ρ → Rep K (avA W I.own σ ρ) (unl W.L H') v d → Q v H'
def FinB (I : SI) (W : DW) (K : PySem.W.Frag) (σ : St) (ρ : En) (H : Hp) (Qd : D → Prop) (Q : VK) : Prop :=
  ∀ v H' d, Qd d → Ex W H H' → SR I W K σ H' ρ → Top K W.bx (avA W I.own σ ρ) (unl W.L H') v d → Q v H'
def FinT (I : SI) (W : DW) (K : PySem.W.Frag) (σ : St) (ρ : En) (H : Hp) (Qb : Bool → Prop) (Q : Bool → Hp → Prop) : Prop :=
  ∀ b H', Qb b → Ex W H H' → SR I W K σ H' ρ → Q b H'
/-- p is kept back too -/
def DW.add (W : DW) (p : Addr) : DW := { W with av := fun b => W.av b ∨ b = p }
/-- what is wanted behind an expression that makes a new list or dict -/
def FinF (I : SI) (W : DW) (K : PySem.W.Frag) (σ : St) (ρ : En) (H : Hp) (Qd : D → Prop) (Q : VK) : Prop :=
  ∀ p H' d, Qd d → Ex W H H' → SR I (W.add p) K σ H' ρ → Own K (avA (W.add p) I.own σ ρ) (unl W.L H') p d → ¬ W.av p → W.H0 p = none → W.L.lookup p = none → unl W.L H p = none → Q (.ref p) H'
inductive TopA (K : PySem.W.Frag) (bx av : Addr → Prop) (H : Hp) : List V → List D → Prop
  | nil : TopA K bx av H [] []
  | cons {v : V} {vs : List V} {d : D} {ds : List D} : Top K bx av H v d → TopA K bx av H vs ds → TopA K bx av H (v :: vs) (d :: ds)
theorem TopA.mono {K : PySem.W.Frag} {bx av av' : Addr → Prop} {H H' : Hp} (k : ∀ b u, nf u = true → ¬ bx b → Rd H b u → Rd H' b u) (ka : Cm av av' H H') : ∀ {vs : List V} {ds : List D}, TopA K bx av H vs ds → TopA K bx av' H' vs ds
  | _, _, .nil => .nil
  | _, _, .cons h t => .cons (h.mono k ka) (t.mono k ka)
def tD (I : SI) (K : PySem.W.Frag) (m : ME) : TE := fun σ H Q => ∃ W ρ Qd, WOk I W ∧ SR I W K σ H ρ ∧ m ρ Qd ∧ FinE I W K σ ρ H Qd Q
def tB (I : SI) (K : PySem.W.Frag) (m : ME) : TE := fun σ H Q => ∃ W ρ Qd, WOk I W ∧ SR I W K σ H ρ ∧ m ρ Qd ∧ FinB I W K σ ρ H Qd Q
def tT (I : SI) (K : PySem.W.Frag) (m : MT) : TT := fun σ H Q => ∃ W ρ Qb, WOk I W ∧ SR I W K σ H ρ ∧ m ρ Qb ∧ FinT I W K σ ρ H Qb Q
def tAE (I : SI) (K : PySem.W.Frag) (m : MA) : TA := fun σ H Q => ∃ W ρ Qd, WOk I W ∧ SR I W K σ H ρ ∧ m ρ Qd ∧ ∀ vs H' ds, Qd ds → Ex W H H' → SR I W K σ H' ρ → RepA K (avA W I.own σ ρ) (unl W.L H') vs ds → Q vs H'
def tAB (I : SI) (K : PySem.W.Frag) (m : MA) : TA := fun σ H Q => ∃ W ρ Qd, WOk I W ∧ SR I W K σ H ρ ∧ m ρ Qd ∧ ∀ vs H' ds, Qd ds → Ex W H H' → SR I W K σ H' ρ → TopA K W.bx (avA W I.own σ ρ) (unl W.L H') vs ds → Q vs H'
/-- an expression whose value may be kept; one that is looked at -/
def DE (I : SI) (X : Cx) (e : Expr) (m : ME) : Prop := PE X e (tD I X.K m)
def DB (I : SI) (X : Cx) (e : Expr) (m : ME) : Prop := PE X e (tB I X.K m)
def DT (I : SI) (X : Cx) (e : Expr) (m : MT) : Prop := PT X e (tT I X.K m)
def DAE (I : SI) (X : Cx) (es : List Expr) (m : MA) : Prop := PA X es (tAE I X.K m)
def DAB (I : SI) (X : Cx) (es : List Expr) (m : MA) : Prop := PA X es (tAB I X.K m)
theorem pe_imp {X : Cx} {e : Expr} {t t' : TE} (h : PE X e t) (k : ∀ σ H Q, t' σ H Q → t σ H Q) : PE X e t' := ⟨fun pins s σ H Q I q => h.run pins s σ H Q I (k _ _ _ q)⟩
theorem pa_imp {X : Cx} {e : List Expr} {t t' : TA} (h : PA X e t) (k : ∀ σ H Q, t' σ H Q → t σ H Q) : PA X e t' := ⟨fun pos pins s σ H Q I q => h.run pos pins s σ H Q I (k _ _ _ q)⟩
theorem pt_imp {X : Cx} {e : Expr} {t t' : TT} (h : PT X e t) (k : ∀ σ H Q, t' σ H Q → t σ H Q) : PT X e t' := ⟨fun pins s σ H Q I q => h.run pins s σ H Q I (k _ _ _ q)⟩
section
variable {I : SI} {W : DW} {K : PySem.W.Frag} {σ : St} {H H' H1 : Hp} {ρ : En} {Qd : D → Prop} {Q : VK}
theorem FinE.ex (f : FinE I W K σ ρ H Qd Q) (e : Ex W H H1) : FinE I W K σ ρ H1 Qd Q := fun v H' d q e1 => f v H' d q (e.trans e1)
theorem FinB.ex (f : FinB I W K σ ρ H Qd Q) (e : Ex W H H1) : FinB I W K σ ρ H1 Qd Q := fun v H' d q e1 => f v H' d q (e.trans e1)
theorem FinT.ex {Qb : Bool → Prop} {Q : Bool → Hp → Prop} (f : FinT I W K σ ρ H Qb Q) (e : Ex W H H1) : FinT I W K σ ρ H1 Qb Q := fun v H' q e1 => f v H' q (e.trans e1)
theorem FinE.here (f : FinE I W K σ ρ H Qd Q) (S : SR I W K σ H ρ) {v : V} {d : D} (r : Rep K (avA W I.own σ ρ) (unl W.L H) v d) (q : Qd d) : Q v H := f v H d q (Ex.refl W H) S r
theorem FinT.here {Qb : Bool → Prop} {Q : Bool → Hp → Prop} (f : FinT I W K σ ρ H Qb Q) (S : SR I W K σ H ρ) {b : Bool} (q : Qb b) : Q b H := f b H q (Ex.refl W H) S
theorem FinB.toE (f : FinB I W K σ ρ H Qd Q) : FinE I W K σ ρ H Qd Q := fun v H' d q e s r => f v H' d q e s (.rep r)
/-- a value that is new: a tuple -/
theorem FinE.newT (ok : WOk I W) (f : FinE I W K σ ρ H Qd Q) (S : SR I W K σ H ρ) {p : Addr} {o : Obj} (ho : o.dict = none) (hp : H p = none) {xs : List V} {ds : List D} (z : xs.length ≤ sizeLine) (r : RepA K (avA W I.own σ ρ) (unl W.L H) xs ds) (q : Qd (.tuple ds)) :
    Q (.ref p) (upd H p (tupH xs o)) :=
  f _ _ _ q (Ex.new S.lkd hp) (S.new ok hp) (.tup (S.fresh hp) ⟨o, ho, by rw [unl_upd (S.lkd.free hp), upd_same]⟩ z ((Ex.new S.lkd hp).repA ok r))
theorem FinE.newL (ok : WOk I W) (f : FinE I W K σ ρ H Qd Q) (S : SR I W K σ H ρ) {p : Addr} (hp : H p = none) {xs : List V} {ds : List D} (z : xs.length ≤ sizeLine) (r : RepA K (avA W I.own σ ρ) (unl W.L H) xs ds) (q : Qd (.list ds)) :
    Q (.ref p) (upd H p (.lst xs)) :=
  f _ _ _ q (Ex.new S.lkd hp) (S.new ok hp) (.lst (S.fresh hp) (.inl (by rw [unl_upd (S.lkd.free hp), upd_same])) z ((Ex.new S.lkd hp).repA ok r))
theorem avA_add {own : List Nat} {p b : Addr} (n : ¬ avA (W.add p) own σ ρ b) : ¬ avA W own σ ρ b := fun z => n (z.elim (fun h => .inl (.inl h)) .inr)
theorem Cm.add {own : List Nat} {p : Addr} : Cm (avA (W.add p) own σ ρ) (avA W own σ ρ) H H := ⟨fun _ _ n _ => avA_add n, fun _ _ _ _ r => r, fun _ _ _ r => r⟩
theorem SR.un {p : Addr} (S : SR I (W.add p) K σ H ρ) : SR I W K σ H ρ where
  len := S.len
  lkd := S.lkd
  val := fun i d h n => let ⟨v, a, r⟩ := S.val i d h n; ⟨v, a, r.mono Cm.add⟩
  own := fun i d h n => let ⟨a, h1, o, h2, h3, h4⟩ := S.own i d h n; ⟨a, h1, o.mono Cm.add rfl, fun z => h2 (.inl z), h3, h4⟩
  inj := S.inj
  fr := S.fr
  avt := fun b h => S.avt b (.inl h)
  box := S.box
  bsl := S.bsl
theorem FinE.toF (f : FinE I W K σ ρ H Qd Q) : FinF I W K σ ρ H Qd Q := fun p H' d q e S o n _ _ _ =>
  f _ H' d q e S.un ((o.mono Cm.add rfl).rep fun z => by
    rcases z with z | ⟨i, hi, ⟨d', hd⟩, hs⟩
    · exact n z
    · obtain ⟨a, h1, _, h2, _⟩ := S.own i d' hd hi
      rw [hs] at h1; cases h1
      exact h2 (.inr rfl))
theorem FinF.ex (ok : WOk I W) (f : FinF I W K σ ρ H Qd Q) (e : Ex W H H1) : FinF I W K σ ρ H1 Qd Q := fun v H' d q e1 S o n n0 nl nf => f v H' d q (e.trans e1) S o n n0 nl (by
  cases h : unl W.L H v with
  | none => rfl
  | some u =>
    have := e v u h fun z => n (ok.bxav v z)
    rw [nf] at this; cases this)
/-- a new object, kept back -/
theorem SR.newAdd (ok : WOk I W) (S : SR I W K σ H ρ) {p : Addr} {o : HO} (h : H p = none) (ho : ntup o = true) : SR I (W.add p) K σ (upd H p o) ρ := by
  have S1 : SR I W K σ (upd H p o) ρ := S.new ok h
  have hl := S.lkd.free h
  have hU : unl W.L H p = none := S.freshU h
  have c : Cm (avA W I.own σ ρ) (avA (W.add p) I.own σ ρ) (unl W.L H) (unl W.L (upd H p o)) := by
    have e : Ex W H (upd H p o) := Ex.new S.lkd h
    refine ⟨fun b u n r z => ?_, (e.keep ok).rd, (e.keep ok).tp⟩
    rcases z with (z | z) | z
    · exact n (.inl z)
    · rw [z, hU] at r; cases r
    · exact n (.inr z)
  exact {
    len := S.len
    lkd := S1.lkd
    val := fun i d h n => let ⟨v, a, r⟩ := S.val i d h n; ⟨v, a, r.mono c⟩
    own := fun i d hd n => by
      obtain ⟨a, h1, ow, h2, h3, h4⟩ := S.own i d hd n
      have hap : a ≠ p := by
        rintro rfl
        obtain ⟨u, hu, _⟩ := ow.some
        rw [hU] at hu; cases hu
      refine ⟨a, h1, ow.mono c (by rw [unl_upd hl, upd_ne hap]), fun z => ?_, h3, h4⟩
      rcases z with z | z
      · exact h2 z
      · exact hap z
    inj := S.inj
    fr := S1.fr
    avt := fun b hb => by
      rcases hb with hb | hb
      · exact S1.avt b hb
      · refine ⟨o, ?_, ho⟩
        subst hb
        show unl W.L _ _ = _
        rw [unl_upd hl, upd_same]
    box := S1.box
    bsl := S1.bsl }
theorem FinF.new (ok : WOk I W) (f : FinF I W K σ ρ H Qd Q) (S : SR I W K σ H ρ) {p : Addr} (hp : H p = none) {o : HO} (ho : ntup o = true) {d : D} (ow : Own K (avA (W.add p) I.own σ ρ) (unl W.L (upd H p o)) p d) (q : Qd d) : Q (.ref p) (upd H p o) := by
  refine f p _ d q (Ex.new S.lkd hp) (S.newAdd ok hp ho) ow (fun z => S.fresh hp (.inl z)) ?_ (S.lkd.free hp) (S.freshU hp)
  cases e : W.H0 p with
  | none => rfl
  | some u =>
    by_cases hb : W.bx p
    · exact absurd (.inl (ok.bxav p hb)) (S.fresh hp)
    · have := S.fr p u e hb
      rw [S.freshU hp] at this; cases this
theorem newC (ok : WOk I W) (S : SR I W K σ H ρ) {p : Addr} {o : HO} (h : H p = none) : Cm (avA W I.own σ ρ) (avA (W.add p) I.own σ ρ) (unl W.L H) (unl W.L (upd H p o)) := by
  have e : Ex W H (upd H p o) := Ex.new S.lkd h
  refine ⟨fun b u n r z => ?_, (e.keep ok).rd, (e.keep ok).tp⟩
  rcases z with (z | z) | z
  · exact n (.inl z)
  · rw [z, S.freshU h] at r; cases r
  · exact n (.inr z)
theorem FinF.newL (ok : WOk I W) (f : FinF I W K σ ρ H Qd Q) (S : SR I W K σ H ρ) {p : Addr} (hp : H p = none) {xs : List V} {ds : List D} (z : xs.length ≤ sizeLine) (r : RepA K (avA W I.own σ ρ) (unl W.L H) xs ds) (q : Qd (.list ds)) : Q (.ref p) (upd H p (.lst xs)) :=
  f.new ok S hp rfl (.lst (by rw [unl_upd (S.lkd.free hp), upd_same]) z (r.mono (newC ok S hp))) q
theorem FinF.newK (ok : WOk I W) (f : FinF I W K σ ρ H Qd Q) (S : SR I W K σ H ρ) {p : Addr} (hp : H p = none) {xs : List (Key × V)} {ds : List (D × D)} (r : RepK K (avA W I.own σ ρ) (unl W.L H) xs ds) (q : Qd (dK ds)) : Q (.ref p) (upd H p (.dK xs)) :=
  f.new ok S hp rfl (.dcK (by rw [unl_upd (S.lkd.free hp), upd_same]) (r.mono (newC ok S hp))) q
theorem FinF.newTd (ok : WOk I W) (f : FinF I W K σ ρ H Qd Q) (S : SR I W K σ H ρ) {p : Addr} (hp : H p = none) {xs : List (List Key × V)} {ds : List (D × D)} (r : RepT K (avA W I.own σ ρ) (unl W.L H) xs ds) (q : Qd (dT ds)) : Q (.ref p) (upd H p (.dT xs)) :=
  f.new ok S hp rfl (.dcT (by rw [unl_upd (S.lkd.free hp), upd_same]) (r.mono (newC ok S hp))) q
theorem Ex.top (ok : WOk I W) (e : Ex W H H') {v : V} {d : D} (r : Top K W.bx (avA W I.own σ ρ) (unl W.L H) v d) : Top K W.bx (avA W I.own σ ρ) (unl W.L H') v d :=
  r.mono (fun b u _ n q => e.rd q n) (e.keep ok)
theorem Ex.topA (ok : WOk I W) (e : Ex W H H') {v : List V} {d : List D} (r : TopA K W.bx (avA W I.own σ ρ) (unl W.L H) v d) : TopA K W.bx (avA W I.own σ ρ) (unl W.L H') v d :=
  r.mono (fun b u _ n q => e.rd q n) (e.keep ok)
end
end PyD
namespace PyD
open PySem PySem.Spec L2
open PyProof.Rows hiding St
section
variable {X : Cx}
theorem obj_tupH {P : Program} {w : World} {H : Hp} {h : Heap} {a : Addr} {xs : List V} {its : List Value} {o : Obj} (hz : xs.length ≤ sizeLine) (r : Vals xs its) (g : h.get? a = some o) (t : IsTup h a its.toArray) : ObjOk P w H h a (tupH xs o) := by
  unfold tupH
  split
  · exact ⟨g, hz, its, r, t⟩
  · exact ⟨hz, its, r, t⟩
theorem fin_tup {pins : List (Addr × Obj)} {s : Shared} {σ : St} {H : Hp} {xs : List V} {its : List Value} {arr : Array Value} {Q : VK} {t' : Nat} (I : Inv X pins σ H s) (hz : xs.length ≤ sizeLine) (r : Vals xs its) (e : arr = its.toArray)
    (q : ∀ p o, H p = none → o.dict = none → Q (.ref p) (upd H p (tupH xs o))) : EP X pins σ Q (.ref s.heap.objs.size) { s with heap := s.heap.push { cls := .type "tuple", data := .seq arr }, toks := t' } := by
  subst e
  exact ⟨.ref s.heap.objs.size, _, I.laid (t' := t') (o := tupH xs { cls := .type "tuple", data := .seq its.toArray }) (fun b ob q => Heap.get?_push_of_some _ q) (Nat.le_refl _) (obj_tupH hz r (Heap.get?_push_size _ rfl) (IsTup.new _ _)), rfl, q _ _ (I.hok.fresh (Nat.le_refl _)) rfl⟩
/-- t + u -/
def rCatH (K : PySem.W.Frag) : R2 := fun x y H Q => ∃ a b xs ys, x = .ref a ∧ y = .ref b ∧ SqT K H a xs ∧ SqT K H b ys ∧ xs.length + ys.length ≤ sizeLine ∧
  (xs = [] → Q (.ref b) H) ∧ (xs ≠ [] → ys = [] → Q (.ref a) H) ∧ (xs ≠ [] → ys ≠ [] → ∀ p o, H p = none → o.dict = none → Q (.ref p) (upd H p (tupH (xs ++ ys) o)))
theorem op_catH : OpR X (binaryOp .Add) (rCatH X.K) := by
  intro pins s σ H x y v u Q I rx ry h
  obtain ⟨a, b, xs, ys, rfl, rfl, ha, hb, hz, q0, q1, q2⟩ := h
  by_cases hx : xs = []
  · exact op_catA pins s σ H _ _ v u Q I rx ry ⟨a, b, xs, ys, rfl, rfl, ha, hb, hz, q0, q1, fun z => absurd hx z⟩
  cases rx
  cases ry
  obtain ⟨its, r1, p1, _⟩ := I.tuple ha
  obtain ⟨its2, r2, p2, _⟩ := I.tuple hb
  refine HT.cat_tup p1 p2 (fun z => hx (r1.nil_iff.mp z)) (fun z => ⟨.ref a, H, I, rfl, q1 hx (r2.nil_iff.mp z)⟩) (fun z => ?_) (by rw [← r1.length, ← r2.length]; exact hz)
  exact fin_tup I (by rw [List.length_append]; exact hz) (r1.append r2) (by simp) (q2 hx fun w => z (r2.nil_iff.mpr w))
/-- t[lo:hi] -/
def rSlH (K : PySem.W.Frag) : V → Option Int → Option Int → Hp → VK → Prop := fun x lo hi H Q => ∃ a xs, x = .ref a ∧ SqT K H a xs ∧
  (HT.sIx xs.length 0 lo = 0 ∧ HT.sIx xs.length xs.length hi = xs.length → Q (.ref a) H) ∧ (¬ (HT.sIx xs.length 0 lo = 0 ∧ HT.sIx xs.length xs.length hi = xs.length) → ∀ p o, H p = none → o.dict = none → Q (.ref p) (upd H p (tupH (cutV xs lo hi) o)))
theorem sl_tupH : SlR X (rSlH X.K) := by
  intro pins s σ H x v vl vu lo hi sl Q I rx hs pl pu h
  obtain ⟨a, xs, rfl, hx, q1, q2⟩ := h
  by_cases hw : HT.sIx xs.length 0 lo = 0 ∧ HT.sIx xs.length xs.length hi = xs.length
  · exact sl_tupA pins s σ H _ v vl vu lo hi sl Q I rx hs pl pu ⟨a, xs, rfl, hx, q1, fun z => absurd hw z⟩
  cases rx
  obtain ⟨its, r, ht, hz⟩ := I.tuple hx
  have hlen : its.toArray.size = xs.length := by rw [List.size_toArray]; exact r.length.symm
  refine ⟨"tuple", _, PyProof.Rows.slot_tuple_getitem.lookup, ht.typeIs, ?_⟩
  refine HT.getItem_tuple_cut ht hs pl pu (by rw [hlen]; exact hw) ?_ (by rw [hlen]; exact hz)
  rw [hlen]
  exact fin_tup I (Nat.le_trans (cutV_length xs lo hi) hz) ((r.drop (HT.sIx xs.length 0 lo)).take (HT.sIx xs.length xs.length hi - HT.sIx xs.length 0 lo)) (by simp) (q2 hw)
theorem call_tuple_H : CallR X (.type "tuple") (fun xs H Q => ∃ p ys, xs = [.ref p] ∧ ((SqL X.K H p ys ∧ ∀ l o, H l = none → o.dict = none → Q (.ref l) (upd H l (tupH ys o))) ∨ (SqT X.K H p ys ∧ Q (.ref p) H))) := by
  intro pins s σ H xs us Q I r h
  obtain ⟨p, ys, rfl, h⟩ := h
  rcases h with ⟨hq, q⟩ | ⟨hq, q⟩
  · obtain ⟨u, rfl, rx⟩ := vals1 r
    cases rx
    obtain ⟨its, r', pl, hz⟩ := I.list hq
    have hlen := r'.length
    refine call_tuple_list pl.isList (fun h' kp => ?_) (by simp only [List.size_toArray] <;> omega)
    have I1 : Inv X pins σ H { s with heap := h' } := I.kept (t' := s.toks) kp
    exact fin_tup I1 hz r' rfl q
  · exact call_tuple_of pins s σ H _ us Q I r ⟨p, ys, rfl, .inr ⟨hq, q⟩⟩
def tTupH (t : TA) : TE := fun σ H Q => t σ H fun xs H1 => xs.length ≤ sizeLine ∧ ∀ p o, H1 p = none → o.dict = none → Q (.ref p) (upd H1 p (tupH xs o))
theorem pe_tupH {es : List Expr} {t : TA} {pos : Pos} {x1} (h : PA X es t) : PE X (.Tuple es x1 pos) (tTupH t) := by
  refine ⟨fun pins s σ H Q I hq => ?_⟩
  refine wpAny_Tuple_spliced (thn (h.run pos pins s σ H _ I hq) fun us s1 ⟨xs, H1, I1, r, z, q⟩ => ⟨by rw [← r.length]; exact z, ?_⟩)
  exact fin_tup I1 z r rfl q
end

theorem Lkd.tp {L : List (Addr × Obj × HO)} {H : Hp} (l : Lkd L H) {b : Addr} {xs : List V} (h : unl L H b = some (.tup xs)) : H b = some (.tup xs) := by
  cases e : L.lookup b with
  | none => rw [unl_none e] at h; exact h
  | some w =>
    obtain ⟨mu, ho⟩ := l b w e
    rw [unl_some e] at h; rw [Option.some.inj h] at mu; exact False.elim mu
theorem mut_tupH {xs : List V} {o : Obj} (h : Mut (some (tupH xs o))) : False := by
  unfold tupH at h
  split at h <;> exact h
theorem Lkd.tpH {L : List (Addr × Obj × HO)} {H : Hp} (l : Lkd L H) {b : Addr} {xs : List V} {o : Obj} (h : unl L H b = some (tupH xs o)) : H b = some (tupH xs o) := by
  cases e : L.lookup b with
  | none => rw [unl_none e] at h; exact h
  | some w =>
    obtain ⟨mu, ho⟩ := l b w e
    rw [unl_some e] at h; rw [Option.some.inj h] at mu; exact (mut_tupH mu).elim
theorem Lkd.tR {L : List (Addr × Obj × HO)} {H : Hp} (l : Lkd L H) {b : Addr} {xs : List V} (h : TupR (unl L H) b xs) : TupR H b xs :=
  let ⟨o, d, e⟩ := h; ⟨o, d, l.tpH e⟩
section
variable {K : PySem.W.Frag} {bx av : Addr → Prop} {H : Hp} {v : V}
theorem Top.int {i : Int} (h : Top K bx av H v (.int i)) : v = .int i := by cases h with | rep r => cases r; rfl
theorem Top.bool {i : Bool} (h : Top K bx av H v (.bool i)) : v = .bl i := by cases h with | rep r => cases r; rfl
theorem Top.str {i : Str} (h : Top K bx av H v (.str i)) : v = .str i := by cases h with | rep r => cases r; rfl
theorem Top.none (h : Top K bx av H v .none) : v = .non := by cases h with | rep r => cases r; rfl
theorem Rep.key {k : Key} (h : Rep K av H v (keyD k)) : v = kV k := by
  cases k with
  | inl i => cases h; rfl
  | inr x => cases h; rfl
theorem RepA.keys : ∀ {vs : List V} {ks : List Key}, RepA K av H vs (ks.map keyD) → vs = ks.map kV
  | _, [], h => by cases h; rfl
  | _, k :: ks, h => by
    have h' : RepA K av H _ (keyD k :: ks.map keyD) := h
    cases h' with
    | cons a t => rw [a.key, RepA.keys t]; rfl
theorem Top.list {ds : List D} (h : Top K bx av H v (.list ds)) : ∃ a xs, v = .ref a ∧ Rd H a (.lst xs) ∧ xs.length ≤ sizeLine ∧ RepA K av H xs ds := by
  cases h with
  | rep r => cases r with | lst n r z a => exact ⟨_, _, rfl, r, z, a⟩
  | lst n r z a => exact ⟨_, _, rfl, r, z, a⟩
theorem Top.tuple {ds : List D} (h : Top K bx av H v (.tuple ds)) : ∃ a xs, v = .ref a ∧ (TupR H a xs ∨ WrT K a xs) ∧ xs.length ≤ sizeLine ∧ RepA K av H xs ds := by
  cases h with
  | rep r => cases r with | tup n r z a => exact ⟨_, _, rfl, .inl r, z, a⟩
  | wrt w z a d => exact ⟨_, _, rfl, .inr w, z, a⟩
theorem Top.dictK {es : List (D × D)} (h : Top K bx av H v (dK es)) : ∃ a kvs, v = .ref a ∧ Rd H a (.dK kvs) ∧ RepK K av H kvs es := by
  cases h with
  | rep r => cases r with | dcK n r a => exact ⟨_, _, rfl, r, a⟩
  | dcK n r a => exact ⟨_, _, rfl, r, a⟩
theorem Top.dictT {es : List (D × D)} (h : Top K bx av H v (dT es)) : ∃ a kvs, v = .ref a ∧ Rd H a (.dT kvs) ∧ RepT K av H kvs es := by
  cases h with
  | rep r => cases r with | dcT n r a => exact ⟨_, _, rfl, r, a⟩
  | dcT n r a => exact ⟨_, _, rfl, r, a⟩
end
section
variable {K : PySem.W.Frag} {av : Addr → Prop} {H : Hp} {L : List (Addr × Obj × HO)}
mutual
/-- data without dicts as the hand layer reads them -/
theorem Rep.dp (l : Lkd L H) : ∀ {v : V} (d : D), d.plain = true → Rep K av (unl L H) v d → Dp K H v d
  | _, .none, _, h => by cases h; exact .non
  | _, .bool b, _, h => by cases h; exact .bl b
  | _, .int b, _, h => by cases h; exact .int b
  | _, .str b, _, h => by cases h; exact .str b
  | _, .list ds, p, h => by cases h with | lst n r z a => exact .lst (.inl (l.rd r)) (RepA.dp l ds (by rw [PyData.plain] at p; exact p) a)
  | _, .tuple ds, p, h => by
    cases h with
    | tup n r z a => exact .tup (.inl (l.tR r).rd) (RepA.dp l ds (by rw [PyData.plain] at p; exact p) a)
  | _, .dict es, p, h => by simp [PyData.plain] at p
theorem RepA.dp (l : Lkd L H) : ∀ {vs : List V} (ds : List D), PyData.plainAll ds = true → RepA K av (unl L H) vs ds → DpAll K H vs ds
  | _, [], _, h => by cases h; exact .nil
  | _, d :: ds, p, h => by
    rw [PyData.plainAll, Bool.and_eq_true] at p
    cases h with | cons a t => exact .cons (Rep.dp l d p.1 a) (RepA.dp l ds p.2 t)
end
theorem Top.dp {bx : Addr → Prop} (l : Lkd L H) {v : V} {d : D} (p : d.plain = true) (h : Top K bx av (unl L H) v d) : Dp K H v d := by
  cases h with
  | rep r => exact r.dp l d p
  | wrt w z a d => exact .tup (.inr w) (RepA.dp l _ (by rw [PyData.plain] at p; exact p) a)
  | lst n r z a => exact .lst (.inl (l.rd r)) (RepA.dp l _ (by rw [PyData.plain] at p; exact p) a)
  | dcK => simp [PyData.plain] at p
  | dcT => simp [PyData.plain] at p
end
section
variable {X : Cx} {I : SI} {W : DW} {pins : List (Addr × Obj)} {s : Shared} {σ : St} {H : Hp} {ρ : En}
theorem SR.reads (Iv : Inv X pins σ H s) (S : SR I W X.K σ H ρ) {v : V} {u : Value} {d : D} (p : d.plain = true) (h : Top X.K W.bx (avA W I.own σ ρ) (unl W.L H) v d) (r : RelV v u) : ∃ as, Reads s.heap u d as :=
  Dp.reads Iv d v u (h.dp S.lkd p) r
/-- the places of a list, a tuple -/
theorem SR.sqL (S : SR I W X.K σ H ρ) {a : Addr} {xs : List V} (h : Rd (unl W.L H) a (.lst xs)) : SqL X.K H a xs := .inl (S.lkd.rd h)
theorem SR.sqT (S : SR I W X.K σ H ρ) {a : Addr} {xs : List V} (h : TupR (unl W.L H) a xs ∨ WrT X.K a xs) : SqT X.K H a xs := by
  rcases h with h | h
  · exact .inl (S.lkd.tR h).rd
  · exact .inr h
end

/-- an operation of two values on data -/
def R2D (X : Cx) (f : Value → Value → Sem Value) (p : D → D → (D → Prop) → Prop) : Prop :=
  ∀ {I : SI} {W : DW} {pins : List (Addr × Obj)} {s : Shared} {σ : St} {H : Hp} {ρ : En} {x y : V} {v u : Value} {d e : D} {Qd : D → Prop} {Q : VK},
    Inv X pins σ H s → WOk I W → SR I W X.K σ H ρ → RelV x v → RelV y u → Top X.K W.bx (avA W I.own σ ρ) (unl W.L H) x d → Top X.K W.bx (avA W I.own σ ρ) (unl W.L H) y e →
    p d e Qd → FinE I W X.K σ ρ H Qd Q → wpAny (model X.prog X.w) X.A (f v u) (EP X pins σ Q) X.xe s
/-- .. of two values that may be kept -/
def R2E (X : Cx) (f : Value → Value → Sem Value) (p : D → D → (D → Prop) → Prop) : Prop :=
  ∀ {I : SI} {W : DW} {pins : List (Addr × Obj)} {s : Shared} {σ : St} {H : Hp} {ρ : En} {x y : V} {v u : Value} {d e : D} {Qd : D → Prop} {Q : VK},
    Inv X pins σ H s → WOk I W → SR I W X.K σ H ρ → RelV x v → RelV y u → Rep X.K (avA W I.own σ ρ) (unl W.L H) x d → Rep X.K (avA W I.own σ ρ) (unl W.L H) y e →
    p d e Qd → FinE I W X.K σ ρ H Qd Q → wpAny (model X.prog X.w) X.A (f v u) (EP X pins σ Q) X.xe s
/-- .. of one value -/
def R1D (X : Cx) (f : Value → Sem Value) (p : D → (D → Prop) → Prop) : Prop :=
  ∀ {I : SI} {W : DW} {pins : List (Addr × Obj)} {s : Shared} {σ : St} {H : Hp} {ρ : En} {x : V} {v : Value} {d : D} {Qd : D → Prop} {Q : VK},
    Inv X pins σ H s → WOk I W → SR I W X.K σ H ρ → RelV x v → Top X.K W.bx (avA W I.own σ ρ) (unl W.L H) x d →
    p d Qd → FinE I W X.K σ ρ H Qd Q → wpAny (model X.prog X.w) X.A (f v) (EP X pins σ Q) X.xe s
/-- .. of a list of values: a call of a builtin -/
def RnD (X : Cx) (f : Value) (p : List D → (D → Prop) → Prop) : Prop :=
  ∀ {I : SI} {W : DW} {pins : List (Addr × Obj)} {s : Shared} {σ : St} {H : Hp} {ρ : En} {xs : List V} {us : List Value} {ds : List D} {Qd : D → Prop} {Q : VK},
    Inv X pins σ H s → WOk I W → SR I W X.K σ H ρ → Vals xs us → TopA X.K W.bx (avA W I.own σ ρ) (unl W.L H) xs ds →
    p ds Qd → FinE I W X.K σ ρ H Qd Q → wpAny (model X.prog X.w) X.A (call f us) (EP X pins σ Q) X.xe s
/-- .. that makes a new list or dict -/
def RnF (X : Cx) (f : Value) (p : List D → (D → Prop) → Prop) : Prop :=
  ∀ {I : SI} {W : DW} {pins : List (Addr × Obj)} {s : Shared} {σ : St} {H : Hp} {ρ : En} {xs : List V} {us : List Value} {ds : List D} {Qd : D → Prop} {Q : VK},
    Inv X pins σ H s → WOk I W → SR I W X.K σ H ρ → Vals xs us → TopA X.K W.bx (avA W I.own σ ρ) (unl W.L H) xs ds →
    p ds Qd → FinF I W X.K σ ρ H Qd Q → wpAny (model X.prog X.w) X.A (call f us) (EP X pins σ Q) X.xe s
theorem RnF.d {X : Cx} {f : Value} {p : List D → (D → Prop) → Prop} (h : RnF X f p) : RnD X f p := fun Iv ok S rv t hp fin => h Iv ok S rv t hp fin.toF
theorem R2D.of {X : Cx} {f : Value → Value → Sem Value} {r : R2} {p : D → D → (D → Prop) → Prop} (ho : OpR X f r)
    (h : ∀ {I : SI} {W : DW} {σ : St} {H : Hp} {ρ : En} {x y : V} {d e : D} {Qd : D → Prop} {Q : VK}, WOk I W → SR I W X.K σ H ρ → Top X.K W.bx (avA W I.own σ ρ) (unl W.L H) x d → Top X.K W.bx (avA W I.own σ ρ) (unl W.L H) y e →
      p d e Qd → FinE I W X.K σ ρ H Qd Q → r x y H Q) : R2D X f p :=
  fun Iv ok S rx ry tx ty hp fin => ho _ _ _ _ _ _ _ _ _ Iv rx ry (h ok S tx ty hp fin)

section
variable {X : Cx}
def pAdd : D → D → (D → Prop) → Prop
  | .int i, .int j, Q => Q (.int (i + j))
  | .str a, .str b, Q => a.length + b.length ≤ sizeLine ∧ Q (.str (a ++ b))
  | .list a, .list b, Q => a.length + b.length ≤ sizeLine ∧ Q (.list (a ++ b))
  | _, _, _ => False
theorem r_add : R2D X (binaryOp .Add) pAdd := by
  intro I W pins s σ H ρ x y v u d e Qd Q Iv ok S rx ry tx ty hp fin
  cases d <;> cases e <;> try (simp only [pAdd] at hp)
  case int.int i j =>
    cases tx.int; cases ty.int
    exact op_add _ _ _ _ _ _ _ _ _ Iv rx ry ⟨i, j, rfl, rfl, fin.here S (.int _) hp⟩
  case str.str i j =>
    cases tx.str; cases ty.str
    exact op_add_str _ _ _ _ _ _ _ _ _ Iv rx ry ⟨i, j, rfl, rfl, hp.1, fin.here S (.str _) hp.2⟩
  case list.list ds es =>
    obtain ⟨a, xs, rfl, ra, za, ha⟩ := tx.list
    obtain ⟨b, ys, rfl, rb, zb, hb⟩ := ty.list
    cases rx; cases ry
    obtain ⟨its, r1, ⟨⟨c1, d1, t1, l1⟩, n1, e1, rfl, _, rfl⟩, _⟩ := Iv.list (S.sqL ra)
    obtain ⟨its2, r2, ⟨⟨c2, d2, t2, l2⟩, n2, e2, rfl, _, rfl⟩, _⟩ := Iv.list (S.sqL rb)
    have hz : (xs ++ ys).length ≤ sizeLine := by rw [List.length_append, ha.len, hb.len]; exact hp.1
    have hz2 : its.toArray.size + its2.toArray.size ≤ sizeLine := by
      rw [List.size_toArray, List.size_toArray, ← r1.length, ← r2.length, ← List.length_append]; exact hz
    refine concat_meets ⟨_, e1, rfl⟩ ⟨_, e2, rfl⟩ noFill_list_add seq_list_add PySem.F.slot_list_add PySem.F.entry_list_add (PySem.F.args_list_add_2 _ _)
      (list_addW a b its.toArray its2.toArray n1 n2 d1 d2 l1 l2 hz2) ⟨e1, e2, ?_⟩
    have hf : H s.heap.objs.size = none := Iv.hok.fresh (Nat.le_refl _)
    have ea : its.toArray ++ its2.toArray = (its ++ its2).toArray := by simp
    rw [ea]
    exact ⟨.ref s.heap.objs.size, upd H s.heap.objs.size (.lst (xs ++ ys)), Iv.laid (t' := s.toks) (fun b u e => Heap.get?_push_of_some _ e) (Nat.le_refl _) ⟨hz, _, 0, r1.append r2, Heap.get?_push_size _ rfl⟩, rfl,
      fin.newL ok S hf hz (ha.app hb) hp.2⟩
/-- .. of values that may be kept: tuples too -/
def pAddE : D → D → (D → Prop) → Prop
  | .tuple a, .tuple b, Q => a.length + b.length ≤ sizeLine ∧ Q (.tuple (a ++ b))
  | a, b, Q => pAdd a b Q
theorem r_addE : R2E X (binaryOp .Add) pAddE := by
  intro I W pins s σ H ρ x y v u d e Qd Q Iv ok S rx ry tx ty hp fin
  by_cases hd : (∃ ds, d = .tuple ds) ∧ ∃ es, e = .tuple es
  · obtain ⟨⟨ds, rfl⟩, es, rfl⟩ := hd
    obtain ⟨hz0, hq⟩ := hp
    obtain ⟨a, xs, rfl, ra, za, ha⟩ := (Top.rep (bx := W.bx) tx).tuple
    obtain ⟨b, ys, rfl, rb, zb, hb⟩ := (Top.rep (bx := W.bx) ty).tuple
    have hz : (xs ++ ys).length ≤ sizeLine := by rw [List.length_append, ha.len, hb.len]; exact hz0
    refine op_catH _ _ _ _ _ _ _ _ _ Iv rx ry ⟨a, b, xs, ys, rfl, rfl, S.sqT ra, S.sqT rb, by rw [← List.length_append]; exact hz, fun z => ?_, fun z1 z2 => ?_, fun z1 z2 p o hn hod => ?_⟩
    · subst z
      cases ha
      exact fin.here S ty hq
    · subst z2
      cases hb
      rw [List.append_nil] at hq
      exact fin.here S tx hq
    · exact fin.newT ok S hod hn hz (ha.app hb) hq
  · refine r_add Iv ok S rx ry (.rep tx) (.rep ty) ?_ fin
    unfold pAddE at hp
    split at hp
    · rename_i a b; exact absurd ⟨⟨a, rfl⟩, b, rfl⟩ hd
    · exact hp
def pSub : D → D → (D → Prop) → Prop
  | .int i, .int j, Q => Q (.int (i - j))
  | _, _, _ => False
theorem r_sub : R2D X (binaryOp .Sub) pSub := by
  intro I W pins s σ H ρ x y v u d e Qd Q Iv ok S rx ry tx ty hp fin
  cases d <;> cases e <;> try (simp only [pSub] at hp)
  case int.int i j =>
    cases tx.int; cases ty.int
    exact op_sub _ _ _ _ _ _ _ _ _ Iv rx ry ⟨i, j, rfl, rfl, fin.here S (.int _) hp⟩
def smallI (i : Int) : Prop := -18446744073709551616 < i ∧ i < 18446744073709551616
def pMul : D → D → (D → Prop) → Prop
  | .int i, .int j, Q => (smallI i ∨ smallI j) ∧ Q (.int (i * j))
  | .list a, .int j, Q => (-9223372036854775808 ≤ j ∧ j < 9223372036854775808 ∧ a.length * j.toNat ≤ sizeLine) ∧ Q (.list (List.replicate j.toNat a).flatten)
  | _, _, _ => False
def pFdiv : D → D → (D → Prop) → Prop
  | .int i, .int j, Q => (0 < j ∧ j < 1073741824) ∧ Q (.int (i / j))
  | _, _, _ => False
theorem r_fdiv : R2D X (binaryOp .FloorDiv) pFdiv := by
  intro I W pins s σ H ρ x y v u d e Qd Q Iv ok S rx ry tx ty hp fin
  cases d <;> cases e <;> try (simp only [pFdiv] at hp)
  case int.int i j =>
    cases tx.int; cases ty.int
    exact op_fdiv _ _ _ _ _ _ _ _ _ Iv rx ry ⟨i, j, rfl, rfl, hp.1, fin.here S (.int _) hp.2⟩
def pMod : D → D → (D → Prop) → Prop
  | .int i, .int j, Q => 0 < j ∧ Q (.int (i % j))
  | _, _, _ => False
theorem r_mod : R2D X (binaryOp .Mod) pMod := by
  intro I W pins s σ H ρ x y v u d e Qd Q Iv ok S rx ry tx ty hp fin
  cases d <;> cases e <;> try (simp only [pMod] at hp)
  case int.int i j =>
    cases tx.int; cases ty.int
    exact op_mod _ _ _ _ _ _ _ _ _ Iv rx ry ⟨i, j, rfl, rfl, hp.1, fin.here S (.int _) hp.2⟩
theorem r_mulI : R2D X (binaryOp .Mult) fun d e Q => match d, e with
  | .int i, .int j => (smallI i ∨ smallI j) ∧ Q (.int (i * j))
  | _, _ => False := by
  intro I W pins s σ H ρ x y v u d e Qd Q Iv ok S rx ry tx ty hp fin
  cases d <;> cases e <;> try (exact False.elim hp)
  case int.int i j =>
    cases tx.int; cases ty.int
    exact op_mul _ _ _ _ _ _ _ _ _ Iv rx ry ⟨i, j, rfl, rfl, hp.1, fin.here S (.int _) hp.2⟩
def pPow : D → D → (D → Prop) → Prop
  | .int i, .int j, Q => (0 ≤ j ∧ j ≤ 1000000 ∧ i.natAbs < 2 ^ 64) ∧ Q (.int (i ^ j.toNat))
  | _, _, _ => False
theorem r_pow : R2D X (binaryOp .Pow) pPow := by
  intro I W pins s σ H ρ x y v u d e Qd Q Iv ok S rx ry tx ty hp fin
  cases d <;> cases e <;> try (simp only [pPow] at hp)
  case int.int i j =>
    cases tx.int; cases ty.int
    exact op_pow _ _ _ _ _ _ _ _ _ Iv rx ry ⟨i, j, rfl, rfl, hp.1, fin.here S (.int _) hp.2⟩
end
end PyD
namespace PyD
open PySem PySem.Spec L2
open PyProof.Rows hiding St
def dget (es : List (D × D)) (k : D) : Option D := (es.find? fun p => PyData.eqv p.1 k).map (·.2)
def dput (es : List (D × D)) (k v : D) : List (D × D) := if (es.any fun p => PyData.eqv p.1 k) = true then es.map (fun p => if PyData.eqv p.1 k = true then (p.1, v) else p) else es ++ [(k, v)]
def ddrop (es : List (D × D)) (k : D) : List (D × D) := es.filter fun p => !PyData.eqv p.1 k
def isKeyK : D → Bool
  | .int _ => true
  | .str _ => true
  | _ => false
def isKeyT : D → Bool
  | .tuple xs => !xs.isEmpty && xs.all isKeyK
  | _ => false
theorem isKeyK_of : ∀ {d : D}, isKeyK d = true → ∃ k, d = keyD k
  | .int i, _ => ⟨.inl i, rfl⟩
  | .str x, _ => ⟨.inr x, rfl⟩
  | .none, h => nomatch h
  | .bool _, h => nomatch h
  | .list _, h => nomatch h
  | .tuple _, h => nomatch h
  | .dict _, h => nomatch h
theorem keysK_of : ∀ {ds : List D}, ds.all isKeyK = true → ∃ ks : List Key, ds = ks.map keyD
  | [], _ => ⟨[], rfl⟩
  | d :: ds, h => by
    rw [List.all_cons, Bool.and_eq_true] at h
    obtain ⟨k, rfl⟩ := isKeyK_of h.1
    obtain ⟨ks, rfl⟩ := keysK_of h.2
    exact ⟨k :: ks, rfl⟩
theorem isKeyT_of : ∀ {d : D}, isKeyT d = true → ∃ ks : List Key, ks ≠ [] ∧ d = .tuple (ks.map keyD)
  | .tuple xs, h => by
    have h : (!xs.isEmpty && xs.all isKeyK) = true := h
    rw [Bool.and_eq_true] at h
    obtain ⟨ks, rfl⟩ := keysK_of h.2
    exact ⟨ks, by rintro rfl; exact absurd h.1 (by decide), rfl⟩
  | .int i, h => nomatch h
  | .str x, h => nomatch h
  | .none, h => nomatch h
  | .bool _, h => nomatch h
  | .list _, h => nomatch h
  | .dict _, h => nomatch h
theorem eqv_key (a b : Key) : PyData.eqv (keyD a) (keyD b) = decide (a = b) := by
  cases a with
  | inl i => cases b with
    | inl j =>
      show PyData.eqv (.int i) (.int j) = _
      rw [PyData.eqv, key_ll]
    | inr y =>
      show PyData.eqv (.int i) (.str y) = _
      rw [PyData.eqv]; rfl
  | inr x => cases b with
    | inl j =>
      show PyData.eqv (.str x) (.int j) = _
      rw [PyData.eqv]; rfl
    | inr y =>
      show PyData.eqv (.str x) (.str y) = _
      rw [PyData.eqv, key_rr]
      by_cases e : x = y
      · subst e; simp
      · rw [decide_eq_false e]; exact beq_eq_false_iff_ne.mpr e
theorem eqvAll_keys : ∀ a b : List Key, PyData.eqvAll (a.map keyD) (b.map keyD) = decide (a = b)
  | [], [] => by simp [PyData.eqvAll]
  | [], _ :: _ => by simp [PyData.eqvAll]
  | _ :: _, [] => by simp [PyData.eqvAll]
  | x :: a, y :: b => by
    rw [List.map_cons, List.map_cons, PyData.eqvAll, eqv_key, eqvAll_keys a b]
    by_cases e : x = y
    · subst e; by_cases e2 : a = b <;> simp [e2]
    · simp [e]
theorem eqv_keyT (a b : List Key) : PyData.eqv (.tuple (a.map keyD)) (.tuple (b.map keyD)) = decide (a = b) := by
  rw [PyData.eqv, eqvAll_keys]
section
variable {K : PySem.W.Frag} {av : Addr → Prop} {H : Hp}
def RelG (K : PySem.W.Frag) (av : Addr → Prop) (H : Hp) : Option V → Option D → Prop
  | some v, some d => Rep K av H v d
  | none, none => True
  | _, _ => False
theorem RelG.isSome {o : Option V} {p : Option D} (h : RelG K av H o p) : o.isSome = p.isSome := by
  cases o <;> cases p <;> first | rfl | exact h.elim
theorem RelG.some {o : Option V} {d : D} (h : RelG K av H o (some d)) : ∃ v, o = some v ∧ Rep K av H v d := by
  cases o with
  | none => exact h.elim
  | some v => exact ⟨v, rfl, h⟩
theorem RepK.val (k : Key) : ∀ {kvs : List (Key × V)} {es : List (D × D)}, RepK K av H kvs es → RelG K av H (valV kvs k) (dget es (keyD k))
  | _, _, .nil => trivial
  | _, _, .cons (k := j) (v := v) (vs := vs) (d := d) (ds := ds) h t => by
    by_cases e : j = k
    · rw [valV_pos (p := (j, v)) e]
      unfold dget
      rw [List.find?_cons_of_pos (by rw [eqv_key]; exact decide_eq_true e)]
      exact h
    · rw [valV_neg (p := (j, v)) e]
      unfold dget
      rw [List.find?_cons_of_neg (by rw [eqv_key, decide_eq_false e]; exact Bool.false_ne_true)]
      exact RepK.val k t
theorem RepT.val (k : List Key) : ∀ {kvs : List (List Key × V)} {es : List (D × D)}, RepT K av H kvs es → RelG K av H (valV kvs k) (dget es (.tuple (k.map keyD)))
  | _, _, .nil => trivial
  | _, _, .cons (k := j) (v := v) (vs := vs) (d := d) (ds := ds) _ h t => by
    by_cases e : j = k
    · rw [valV_pos (p := (j, v)) e]
      unfold dget
      rw [List.find?_cons_of_pos (by rw [eqv_keyT]; exact decide_eq_true e)]
      exact h
    · rw [valV_neg (p := (j, v)) e]
      unfold dget
      rw [List.find?_cons_of_neg (by rw [eqv_keyT, decide_eq_false e]; exact Bool.false_ne_true)]
      exact RepT.val k t
theorem RepK.any (k : Key) : ∀ {kvs : List (Key × V)} {es : List (D × D)}, RepK K av H kvs es → (kvs.any fun kv => decide (kv.1 = k)) = es.any fun p => PyData.eqv p.1 (keyD k)
  | _, _, .nil => rfl
  | _, _, .cons h t => by rw [List.any_cons, List.any_cons, RepK.any k t, eqv_key]
theorem RepT.any (k : List Key) : ∀ {kvs : List (List Key × V)} {es : List (D × D)}, RepT K av H kvs es → (kvs.any fun kv => decide (kv.1 = k)) = es.any fun p => PyData.eqv p.1 (.tuple (k.map keyD))
  | _, _, .nil => rfl
  | _, _, .cons _ h t => by rw [List.any_cons, List.any_cons, RepT.any k t, eqv_keyT]
theorem RepK.app : ∀ {a b : List (Key × V)} {c d : List (D × D)}, RepK K av H a c → RepK K av H b d → RepK K av H (a ++ b) (c ++ d)
  | _, _, _, _, .nil, h => h
  | _, _, _, _, .cons h t, b => .cons h (RepK.app t b)
theorem RepT.app : ∀ {a b : List (List Key × V)} {c d : List (D × D)}, RepT K av H a c → RepT K av H b d → RepT K av H (a ++ b) (c ++ d)
  | _, _, _, _, .nil, h => h
  | _, _, _, _, .cons n h t, b => .cons n h (RepT.app t b)
theorem RepK.upd (k : Key) {v : V} {d : D} (r : Rep K av H v d) : ∀ {kvs : List (Key × V)} {es : List (D × D)}, RepK K av H kvs es →
    RepK K av H (kvs.map fun kv => if kv.1 = k then (kv.1, v) else kv) (es.map fun p => if PyData.eqv p.1 (keyD k) = true then (p.1, d) else p)
  | _, _, .nil => .nil
  | _, _, .cons (k := j) h t => by
    rw [List.map_cons, List.map_cons]
    by_cases e : j = k
    · rw [if_pos e, if_pos (by rw [eqv_key]; exact decide_eq_true e)]
      exact .cons r (RepK.upd k r t)
    · rw [if_neg e, if_neg (by rw [eqv_key, decide_eq_false e]; exact Bool.false_ne_true)]
      exact .cons h (RepK.upd k r t)
theorem RepT.upd (k : List Key) {v : V} {d : D} (r : Rep K av H v d) : ∀ {kvs : List (List Key × V)} {es : List (D × D)}, RepT K av H kvs es →
    RepT K av H (kvs.map fun kv => if kv.1 = k then (kv.1, v) else kv) (es.map fun p => if PyData.eqv p.1 (.tuple (k.map keyD)) = true then (p.1, d) else p)
  | _, _, .nil => .nil
  | _, _, .cons (k := j) n h t => by
    rw [List.map_cons, List.map_cons]
    by_cases e : j = k
    · rw [if_pos e, if_pos (by rw [eqv_keyT]; exact decide_eq_true e)]
      exact .cons n r (RepT.upd k r t)
    · rw [if_neg e, if_neg (by rw [eqv_keyT, decide_eq_false e]; exact Bool.false_ne_true)]
      exact .cons n h (RepT.upd k r t)
theorem RepK.put {k : Key} {v : V} {d : D} (r : Rep K av H v d) {kvs : List (Key × V)} {es : List (D × D)} (h : RepK K av H kvs es) : RepK K av H (putK kvs k v) (dput es (keyD k) d) := by
  unfold putK dput
  rw [h.any k]
  split
  · exact h.upd k r
  · exact h.app (.cons r .nil)
theorem RepT.put {k : List Key} {v : V} {d : D} (n : k ≠ []) (r : Rep K av H v d) {kvs : List (List Key × V)} {es : List (D × D)} (h : RepT K av H kvs es) : RepT K av H (putK kvs k v) (dput es (.tuple (k.map keyD)) d) := by
  unfold putK dput
  rw [h.any k]
  split
  · exact h.upd k r
  · exact h.app (.cons n r .nil)
end
section
variable {X : Cx} {I : SI} {W : DW} {pins : List (Addr × Obj)} {s : Shared} {σ : St} {H : Hp} {ρ : En}
/-- the key's own tuple -/
theorem Top.keyT {bx av : Addr → Prop} {v : V} {ks : List Key} (n : ks ≠ []) (l : Lkd W.L H) (h : Top X.K bx av (unl W.L H) v (.tuple (ks.map keyD))) (nw : ∀ a xs, v = .ref a → ¬ WrT X.K a xs) : ∃ b, v = .ref b ∧ H b = some (.tup (ks.map kV)) := by
  obtain ⟨a, xs, rfl, r, _, q⟩ := h.tuple
  rcases r with r | r
  · rw [q.keys] at r
    obtain ⟨o, _, e⟩ := l.tR r
    rw [tupH_key n] at e
    exact ⟨a, rfl, e⟩
  · exact absurd r (nw a xs rfl)
end

section
variable {X : Cx}
def EqOk (d e : D) : Prop := d.plain = true ∧ e.plain = true ∧ min d.depth e.depth ≤ 150
def pEq (d e : D) (Q : D → Prop) : Prop := EqOk d e ∧ Q (.bool (PyData.eqv d e))
def pNe (d e : D) (Q : D → Prop) : Prop := EqOk d e ∧ Q (.bool (!PyData.eqv d e))
theorem r_eq (hu : X.A.units + 200 < cLine) : R2D X (compareOp .Eq) pEq := by
  intro I W pins s σ H ρ x y v u d e Qd Q Iv ok S rx ry tx ty hp fin
  obtain ⟨⟨h1, h2, h3⟩, hq⟩ := hp
  obtain ⟨as, r1⟩ := S.reads Iv h1 tx rx
  obtain ⟨bs, r2⟩ := S.reads Iv h2 ty ry
  exact SeqAt.eq_plain r1 r2 h1 h2 (by omega) ⟨.bl _, H, Iv, rfl, fin.here S (.bl _) hq⟩
theorem r_ne (hu : X.A.units + 200 < cLine) : R2D X (compareOp .NotEq) pNe := by
  intro I W pins s σ H ρ x y v u d e Qd Q Iv ok S rx ry tx ty hp fin
  obtain ⟨⟨h1, h2, h3⟩, hq⟩ := hp
  obtain ⟨as, r1⟩ := S.reads Iv h1 tx rx
  obtain ⟨bs, r2⟩ := S.reads Iv h2 ty ry
  exact SeqAt.ne_plain r1 r2 h1 h2 (by omega) ⟨.bl _, H, Iv, rfl, fin.here S (.bl _) hq⟩
open PySem.W in
def LtOk (d e : D) : Prop := EqOk d e ∧ alike d e = true ∧ d ≠ .none
open PySem.W in
def pLt (d e : D) (Q : D → Prop) : Prop := LtOk d e ∧ Q (.bool (dataLt d e))
open PySem.W in
def pGt (d e : D) (Q : D → Prop) : Prop := LtOk d e ∧ Q (.bool (dataLt e d))
open PySem.W in
def pLe (d e : D) (Q : D → Prop) : Prop := LtOk d e ∧ Q (.bool (!dataLt e d))
open PySem.W in
def pGe (d e : D) (Q : D → Prop) : Prop := LtOk d e ∧ Q (.bool (!dataLt d e))
theorem r_lt (hu : X.A.units + 200 < cLine) : R2D X (compareOp .Lt) pLt := by
  intro I W pins s σ H ρ x y v u d e Qd Q Iv ok S rx ry tx ty hp fin
  obtain ⟨⟨⟨h1, h2, h3⟩, h4, h5⟩, hq⟩ := hp
  obtain ⟨as, r1⟩ := S.reads Iv h1 tx rx
  obtain ⟨bs, r2⟩ := S.reads Iv h2 ty ry
  exact PySem.W.lt_data r1 r2 h4 h5 (by omega) ⟨.bl _, H, Iv, rfl, fin.here S (.bl _) hq⟩
theorem r_gt (hu : X.A.units + 200 < cLine) : R2D X (compareOp .Gt) pGt := by
  intro I W pins s σ H ρ x y v u d e Qd Q Iv ok S rx ry tx ty hp fin
  obtain ⟨⟨⟨h1, h2, h3⟩, h4, h5⟩, hq⟩ := hp
  obtain ⟨as, r1⟩ := S.reads Iv h1 tx rx
  obtain ⟨bs, r2⟩ := S.reads Iv h2 ty ry
  exact PySem.W.gt_data r1 r2 h4 h5 (by omega) ⟨.bl _, H, Iv, rfl, fin.here S (.bl _) hq⟩
theorem r_le (hu : X.A.units + 200 < cLine) : R2D X (compareOp .LtE) pLe := by
  intro I W pins s σ H ρ x y v u d e Qd Q Iv ok S rx ry tx ty hp fin
  obtain ⟨⟨⟨h1, h2, h3⟩, h4, h5⟩, hq⟩ := hp
  obtain ⟨as, r1⟩ := S.reads Iv h1 tx rx
  obtain ⟨bs, r2⟩ := S.reads Iv h2 ty ry
  exact PySem.W.le_data r1 r2 h4 h5 (by omega) ⟨.bl _, H, Iv, rfl, fin.here S (.bl _) hq⟩
theorem r_ge (hu : X.A.units + 200 < cLine) : R2D X (compareOp .GtE) pGe := by
  intro I W pins s σ H ρ x y v u d e Qd Q Iv ok S rx ry tx ty hp fin
  obtain ⟨⟨⟨h1, h2, h3⟩, h4, h5⟩, hq⟩ := hp
  obtain ⟨as, r1⟩ := S.reads Iv h1 tx rx
  obtain ⟨bs, r2⟩ := S.reads Iv h2 ty ry
  exact PySem.W.ge_data r1 r2 h4 h5 (by omega) ⟨.bl _, H, Iv, rfl, fin.here S (.bl _) hq⟩
def isD : D → D → Bool
  | .none, .none => true
  | .bool a, .bool b => a == b
  | _, _ => false
def pIs (d : D) : D → (D → Prop) → Prop
  | .none, Q => Q (.bool (isD d .none))
  | .bool b, Q => Q (.bool (isD d (.bool b)))
  | _, _ => False
def pIsNot (d : D) : D → (D → Prop) → Prop
  | .none, Q => Q (.bool (!isD d .none))
  | .bool b, Q => Q (.bool (!isD d (.bool b)))
  | _, _ => False
theorem is_case {K : PySem.W.Frag} {bx av : Addr → Prop} {H : Hp} {x y : V} {v u : Value} {d e : D} (rx : RelV x v) (ry : RelV y u) (tx : Top K bx av H x d) (ty : Top K bx av H y e) (he : e = .none ∨ ∃ b, e = .bool b) : plainIs v u = true ∧ (v == u) = isD d e := by
  rcases he with rfl | ⟨b, rfl⟩
  · cases ty.none
    cases ry
    cases d <;> first
      | (cases tx.none; cases rx; exact ⟨rfl, rfl⟩)
      | (cases tx.bool; cases rx; exact ⟨rfl, rfl⟩)
      | (cases tx.int; obtain ⟨t, rfl⟩ := rx; exact ⟨rfl, rfl⟩)
      | (cases tx.str; obtain ⟨t, rfl⟩ := rx; exact ⟨rfl, rfl⟩)
      | (obtain ⟨a, xs, rfl, _⟩ := tx.list; cases rx; exact ⟨rfl, rfl⟩)
      | (obtain ⟨a, xs, rfl, _⟩ := tx.tuple; cases rx; exact ⟨rfl, rfl⟩)
      | (cases tx with
         | rep r => cases r <;> (cases rx; exact ⟨rfl, rfl⟩)
         | dcK => cases rx; exact ⟨rfl, rfl⟩
         | dcT => cases rx; exact ⟨rfl, rfl⟩)
  · cases ty.bool
    cases ry
    cases d <;> first
      | (cases tx.none; cases rx; exact ⟨rfl, rfl⟩)
      | (cases tx.int; obtain ⟨t, rfl⟩ := rx; exact ⟨rfl, rfl⟩)
      | (cases tx.str; obtain ⟨t, rfl⟩ := rx; exact ⟨rfl, rfl⟩)
      | (obtain ⟨a, xs, rfl, _⟩ := tx.list; cases rx; exact ⟨rfl, rfl⟩)
      | (obtain ⟨a, xs, rfl, _⟩ := tx.tuple; cases rx; exact ⟨rfl, rfl⟩)
      | (rename_i c; cases tx.bool; cases rx; cases b <;> cases c <;> exact ⟨rfl, rfl⟩)
      | (cases tx with
         | rep r => cases r <;> (cases rx; exact ⟨rfl, rfl⟩)
         | dcK => cases rx; exact ⟨rfl, rfl⟩
         | dcT => cases rx; exact ⟨rfl, rfl⟩)
theorem r_is : R2D X (compareOp .Is) pIs := by
  intro I W pins s σ H ρ x y v u d e Qd Q Iv ok S rx ry tx ty hp fin
  cases e <;> try (exact False.elim hp)
  all_goals
    obtain ⟨h1, h2⟩ := is_case rx ry tx ty (by first | exact .inl rfl | exact .inr ⟨_, rfl⟩)
    exact wpAny_is_plain h1 (by rw [h2]; exact ⟨.bl _, H, Iv, rfl, fin.here S (.bl _) hp⟩)
theorem r_isNot : R2D X (compareOp .IsNot) pIsNot := by
  intro I W pins s σ H ρ x y v u d e Qd Q Iv ok S rx ry tx ty hp fin
  cases e <;> try (exact False.elim hp)
  all_goals
    obtain ⟨h1, h2⟩ := is_case rx ry tx ty (by first | exact .inl rfl | exact .inr ⟨_, rfl⟩)
    exact wpAny_isNot_plain h1 (by rw [h2]; exact ⟨.bl _, H, Iv, rfl, fin.here S (.bl _) hp⟩)
def InOk (d : D) (xs : List D) : Prop := PyData.plainAll xs = true ∧ d.plain = true ∧ min (PyData.depthAll xs) d.depth ≤ 150
def inD (d : D) (xs : List D) : Bool := xs.any fun y => PyData.eqv y d
def inS (x y : Str) : Bool := !(Builtin.Str.occurrences y x 0 y.length 1).isEmpty
def pIn (d : D) : D → (D → Prop) → Prop
  | .list xs, Q => InOk d xs ∧ Q (.bool (inD d xs))
  | .tuple xs, Q => InOk d xs ∧ Q (.bool (inD d xs))
  | .str y, Q => match d with
    | .str x => Q (.bool (inS x y))
    | _ => False
  | .dict ((.none, .none) :: es), Q => isKeyK d = true ∧ Q (.bool (dget es d).isSome)
  | .dict ((.none, .bool true) :: es), Q => isKeyT d = true ∧ Q (.bool (dget es d).isSome)
  | _, _ => False
def pNotIn (d : D) : D → (D → Prop) → Prop
  | .list xs, Q => InOk d xs ∧ Q (.bool (!inD d xs))
  | .tuple xs, Q => InOk d xs ∧ Q (.bool (!inD d xs))
  | .str y, Q => match d with
    | .str x => Q (.bool (!inS x y))
    | _ => False
  | .dict ((.none, .none) :: es), Q => isKeyK d = true ∧ Q (.bool (!(dget es d).isSome))
  | .dict ((.none, .bool true) :: es), Q => isKeyT d = true ∧ Q (.bool (!(dget es d).isSome))
  | _, _ => False
/-- what a dict holds at a key -/
theorem SR.dgetK {I : SI} {W : DW} {K : PySem.W.Frag} {σ : St} {H : Hp} {ρ : En} {x y : V} {k : D} {es : List (D × D)} (S : SR I W K σ H ρ) (hk : isKeyK k = true) (tk : Top K W.bx (avA W I.own σ ρ) (unl W.L H) y k) (td : Top K W.bx (avA W I.own σ ρ) (unl W.L H) x (dK es)) :
    ∃ a o, x = .ref a ∧ DGet H a y o ∧ RelG K (avA W I.own σ ρ) (unl W.L H) o (dget es k) := by
  obtain ⟨j, rfl⟩ := isKeyK_of hk
  obtain ⟨a, kvs, rfl, r, q⟩ := td.dictK
  have hy : y = kV j := by
    cases j with
    | inl i => exact tk.int
    | inr z => exact tk.str
  exact ⟨a, valV kvs j, rfl, .inl ⟨kvs, j, S.lkd.rd r, hy, rfl⟩, q.val j⟩
end
end PyD
namespace PyD
open PySem PySem.Spec L2
open PyProof.Rows hiding St
/-- the left one may be kept, the right one is looked at -/
def R2M (X : Cx) (f : Value → Value → Sem Value) (p : D → D → (D → Prop) → Prop) : Prop :=
  ∀ {I : SI} {W : DW} {pins : List (Addr × Obj)} {s : Shared} {σ : St} {H : Hp} {ρ : En} {x y : V} {v u : Value} {d e : D} {Qd : D → Prop} {Q : VK},
    Inv X pins σ H s → WOk I W → SR I W X.K σ H ρ → RelV x v → RelV y u → Rep X.K (avA W I.own σ ρ) (unl W.L H) x d → Top X.K W.bx (avA W I.own σ ρ) (unl W.L H) y e →
    p d e Qd → FinE I W X.K σ ρ H Qd Q → wpAny (model X.prog X.w) X.A (f v u) (EP X pins σ Q) X.xe s
section
variable {K : PySem.W.Frag} {I : SI} {W : DW} {σ : St} {H : Hp} {ρ : En}
theorem SR.dgetT {x y : V} {k : D} {es : List (D × D)} (S : SR I W K σ H ρ) (hk : isKeyT k = true) (tk : Rep K (avA W I.own σ ρ) (unl W.L H) y k) (td : Top K W.bx (avA W I.own σ ρ) (unl W.L H) x (dT es)) :
    ∃ a o, x = .ref a ∧ DGet H a y o ∧ RelG K (avA W I.own σ ρ) (unl W.L H) o (dget es k) := by
  obtain ⟨j, hj, rfl⟩ := isKeyT_of hk
  obtain ⟨a, kvs, rfl, r, q⟩ := td.dictT
  cases tk with
  | tup n rt z ra =>
    rw [ra.keys] at rt
    obtain ⟨o, _, rt⟩ := S.lkd.tR rt
    rw [tupH_key hj] at rt
    exact ⟨a, valV kvs j, rfl, .inr ⟨kvs, j, _, S.lkd.rd r, rfl, rt, rfl⟩, q.val j⟩
end
section
variable {X : Cx}
theorem r_in (hu : X.A.units + 200 < cLine) : R2M X (compareOp .In) pIn := by
  intro I W pins s σ H ρ x y v u d e Qd Q Iv ok S rx ry tx ty hp fin
  unfold pIn at hp
  split at hp
  · obtain ⟨⟨h1, h2, h3⟩, hq⟩ := hp
    obtain ⟨as, r1⟩ := S.reads Iv h2 (.rep tx) rx
    obtain ⟨bs, r2⟩ := S.reads Iv (by rw [PyData.plain]; exact h1) ty ry
    exact SeqAt.in_list_data r2 r1 h1 h2 (by omega) ⟨.bl _, H, Iv, rfl, fin.here S (.bl _) hq⟩
  · obtain ⟨⟨h1, h2, h3⟩, hq⟩ := hp
    obtain ⟨as, r1⟩ := S.reads Iv h2 (.rep tx) rx
    obtain ⟨bs, r2⟩ := S.reads Iv (by rw [PyData.plain]; exact h1) ty ry
    exact SeqAt.in_tuple_data r2 r1 h1 h2 (by omega) ⟨.bl _, H, Iv, rfl, fin.here S (.bl _) hq⟩
  · split at hp
    · cases tx; cases ty.str
      exact op_in_str _ _ _ _ _ _ _ _ _ Iv rx ry ⟨_, _, rfl, rfl, fin.here S (.bl _) hp⟩
    · exact hp.elim
  · obtain ⟨hk, hq⟩ := hp
    obtain ⟨a, o, rfl, g, rel⟩ := S.dgetK hk (.rep tx) ty
    cases ry
    refine d_in (by omega) Iv g rx fun s' Iv' => ⟨.bl _, H, Iv', rfl, fin.here S (.bl _) ?_⟩
    rw [rel.isSome]; exact hq
  · obtain ⟨hk, hq⟩ := hp
    obtain ⟨a, o, rfl, g, rel⟩ := S.dgetT hk tx ty
    cases ry
    refine d_in (by omega) Iv g rx fun s' Iv' => ⟨.bl _, H, Iv', rfl, fin.here S (.bl _) ?_⟩
    rw [rel.isSome]; exact hq
  · exact hp.elim
theorem r_notIn (hu : X.A.units + 200 < cLine) : R2M X (compareOp .NotIn) pNotIn := by
  intro I W pins s σ H ρ x y v u d e Qd Q Iv ok S rx ry tx ty hp fin
  unfold pNotIn at hp
  split at hp
  · obtain ⟨⟨h1, h2, h3⟩, hq⟩ := hp
    obtain ⟨as, r1⟩ := S.reads Iv h2 (.rep tx) rx
    obtain ⟨bs, r2⟩ := S.reads Iv (by rw [PyData.plain]; exact h1) ty ry
    exact SeqAt.notIn_list_data r2 r1 h1 h2 (by omega) ⟨.bl _, H, Iv, rfl, fin.here S (.bl _) hq⟩
  · obtain ⟨⟨h1, h2, h3⟩, hq⟩ := hp
    obtain ⟨as, r1⟩ := S.reads Iv h2 (.rep tx) rx
    obtain ⟨bs, r2⟩ := S.reads Iv (by rw [PyData.plain]; exact h1) ty ry
    exact SeqAt.notIn_tuple_data r2 r1 h1 h2 (by omega) ⟨.bl _, H, Iv, rfl, fin.here S (.bl _) hq⟩
  · split at hp
    · cases tx; cases ty.str
      refine L2.op_notIn_str _ _ _ _ _ _ _ _ _ Iv rx ry ⟨_, _, rfl, rfl, fin.here S (.bl _) ?_⟩
      exact hp
    · exact hp.elim
  · obtain ⟨hk, hq⟩ := hp
    obtain ⟨a, o, rfl, g, rel⟩ := S.dgetK hk (.rep tx) ty
    cases ry
    refine d_notIn (by omega) Iv g rx fun s' Iv' => ⟨.bl _, H, Iv', rfl, fin.here S (.bl _) ?_⟩
    rw [rel.isSome]; exact hq
  · obtain ⟨hk, hq⟩ := hp
    obtain ⟨a, o, rfl, g, rel⟩ := S.dgetT hk tx ty
    cases ry
    refine d_notIn (by omega) Iv g rx fun s' Iv' => ⟨.bl _, H, Iv', rfl, fin.here S (.bl _) ?_⟩
    rw [rel.isSome]; exact hq
  · exact hp.elim
/-- the item at a place, from the end too -/
def atD {α : Type} (xs : List α) (i : Int) : Option α := if 0 ≤ i then xs[i.toNat]? else if 0 ≤ i + xs.length then xs[(i + xs.length).toNat]? else none
def pIx : D → D → (D → Prop) → Prop
  | .list xs, .int i, Q => ∃ d, atD xs i = some d ∧ Q d
  | .tuple xs, .int i, Q => ∃ d, atD xs i = some d ∧ Q d
  | .str z, .int i, Q => ∃ c, z.length ≤ sizeLine ∧ atD z.cps.toList i = some c ∧ Q (.str ⟨#[c]⟩)
  | .dict ((.none, .none) :: es), k, Q => isKeyK k = true ∧ ∃ d, dget es k = some d ∧ Q d
  | .dict ((.none, .bool true) :: es), k, Q => isKeyT k = true ∧ ∃ d, dget es k = some d ∧ Q d
  | _, _, _ => False
theorem atI_of {α : Type} {xs : List α} {i : Int} {d : α} (h : atD xs i = some d) : atI xs i = some d := by
  unfold atD at h
  unfold atI ixN
  split at h
  · rename_i h0
    obtain ⟨hl, he⟩ := List.getElem?_eq_some_iff.mp h
    rw [if_pos h0, if_pos (by omega)]
    exact h
  · split at h
    · rename_i h0 h1
      rw [if_neg h0, if_pos (by omega)]
      exact h
    · cases h
theorem atI_rep {K : PySem.W.Frag} {av : Addr → Prop} {H : Hp} {xs : List V} {ds : List D} (r : RepA K av H xs ds) {i : Int} {d : D} (h : atD ds i = some d) : ∃ v, atI xs i = some v ∧ Rep K av H v d := by
  unfold atD at h
  have hl := r.len
  split at h
  · rename_i h0
    obtain ⟨v, hv, rv⟩ := r.get h
    exact ⟨v, atI_of (by unfold atD; rw [if_pos h0]; exact hv), rv⟩
  · split at h
    · rename_i h0 h1
      obtain ⟨v, hv, rv⟩ := r.get h
      exact ⟨v, atI_of (by unfold atD; rw [if_neg h0, hl, if_pos h1]; exact hv), rv⟩
    · cases h
/-- a subscript -/
theorem r_ix (hu : X.A.units + 200 < cLine) (value slice : Expr) {I : SI} {W : DW} {pins : List (Addr × Obj)} {s : Shared} {σ : St} {H : Hp} {ρ : En} {x y : V} {v u : Value} {d e : D} {Qd : D → Prop} {Q : VK}
    (Iv : Inv X pins σ H s) (ok : WOk I W) (S : SR I W X.K σ H ρ) (rx : RelV x v) (ry : RelV y u) (tx : Top X.K W.bx (avA W I.own σ ρ) (unl W.L H) x d) (ty : Rep X.K (avA W I.own σ ρ) (unl W.L H) y e)
    (hp : pIx d e Qd) (fin : FinE I W X.K σ ρ H Qd Q) (hs : subscripted slice false v u = operate [v, u] (getItem v u)) : wpAny (model X.prog X.w) X.A (subscriptTail value slice v u) (EP X pins σ Q) X.xe s := by
  unfold pIx at hp
  split at hp
  · obtain ⟨d, hd, hq⟩ := hp
    obtain ⟨a, xs, rfl, r, z, ra⟩ := tx.list
    cases ty
    obtain ⟨w, hw, rw'⟩ := atI_rep ra hd
    exact ix_list value slice pins s σ H _ _ _ _ Q Iv rx ry ⟨a, xs, _, w, rfl, rfl, S.sqL r, hw, fin.here S rw' hq⟩ hs
  · obtain ⟨d, hd, hq⟩ := hp
    obtain ⟨a, xs, rfl, r, z, ra⟩ := tx.tuple
    cases ty
    obtain ⟨w, hw, rw'⟩ := atI_rep ra hd
    exact ix_tup value slice pins s σ H _ _ _ _ Q Iv rx ry ⟨a, xs, _, w, rfl, rfl, S.sqT r, hw, fin.here S rw' hq⟩ hs
  · obtain ⟨c, hz, hd, hq⟩ := hp
    cases tx.str
    cases ty
    exact ix_str value slice pins s σ H _ _ _ _ Q Iv rx ry ⟨_, _, c, rfl, rfl, hz, atI_of hd, fin.here S (.str _) hq⟩ hs
  · obtain ⟨hk, d, hd, hq⟩ := hp
    obtain ⟨a, o, rfl, g, rel⟩ := S.dgetK hk (.rep ty) tx
    rw [hd] at rel
    obtain ⟨w, rfl, rw'⟩ := rel.some
    cases rx
    exact tail_any (dict_typeIs Iv g) PySem.F.slot_dict_getitem.lookup (d_getItem (by omega) Iv g ry fun w' s' Iv' rr => ⟨_, H, Iv', rr, fin.here S rw' hq⟩) hs
  · obtain ⟨hk, d, hd, hq⟩ := hp
    obtain ⟨a, o, rfl, g, rel⟩ := S.dgetT hk ty tx
    rw [hd] at rel
    obtain ⟨w, rfl, rw'⟩ := rel.some
    cases rx
    exact tail_any (dict_typeIs Iv g) PySem.F.slot_dict_getitem.lookup (d_getItem (by omega) Iv g ry fun w' s' Iv' rr => ⟨_, H, Iv', rr, fin.here S rw' hq⟩) hs
  · exact hp.elim
theorem TopA.one {K : PySem.W.Frag} {bx av : Addr → Prop} {H : Hp} {xs : List V} {d : D} (h : TopA K bx av H xs [d]) : ∃ x, xs = [x] ∧ Top K bx av H x d := by
  cases h with | cons a t => cases t; exact ⟨_, rfl, a⟩
theorem TopA.two {K : PySem.W.Frag} {bx av : Addr → Prop} {H : Hp} {xs : List V} {d e : D} (h : TopA K bx av H xs [d, e]) : ∃ x y, xs = [x, y] ∧ Top K bx av H x d ∧ Top K bx av H y e := by
  cases h with | cons a t => cases t with | cons b t => cases t; exact ⟨_, _, rfl, a, b⟩
end
end PyD
namespace PyD
open PySem PySem.Spec L2
open PyProof.Rows hiding St
section
variable {X : Cx}
theorem dt_len {pins : List (Addr × Obj)} {σ : St} {H : Hp} {s : Shared} {a : Addr} {kvs : List (List Key × V)} {Q : Value → Shared → Prop} (I : Inv X pins σ H s) (e : Rd H a (.dT kvs)) (h : ∀ t s', Inv X pins σ H s' → Q (.int kvs.length t) s') :
    wpAny (model X.prog X.w) X.A (call (.builtin "len") [.ref a]) Q X.xe s := by
  obtain ⟨z, hd, xs, rel, dd⟩ := dt_rd I.hok e
  have hm : s.heap.DictKeyed (tupleKind (mixKind X.prog X.w)) a (pairsH xs) := ⟨xs, dd, rfl⟩
  have hl : (pairsH xs).length = kvs.length := by rw [pairsH_length]; exact (Paired.length rel).symm
  refine call_len_slot (n := kvs.length) hm.typeIs PySem.F.slot_dict_len (fun Q' hq => len_keyed hd hm (by rw [hl]; exact hq)) (by omega) (by rw [sizeLine_eq] at z; omega) ?_
  exact h _ _ ((I.tok _).tok _)
def pLen : List D → (D → Prop) → Prop
  | [.list xs], Q => Q (.int xs.length)
  | [.tuple xs], Q => Q (.int xs.length)
  | [.str z], Q => z.length ≤ sizeLine ∧ Q (.int z.length)
  | [.dict ((.none, .none) :: es)], Q => Q (.int es.length)
  | [.dict ((.none, .bool true) :: es)], Q => Q (.int es.length)
  | _, _ => False
theorem r_len : RnD X (.builtin "len") pLen := by
  intro I W pins s σ H ρ xs us ds Qd Q Iv ok S rv tv hp fin
  unfold pLen at hp
  split at hp
  · obtain ⟨x, rfl, t⟩ := tv.one
    obtain ⟨a, xs, rfl, r, z, ra⟩ := t.list
    exact call_len_seq _ _ _ _ _ _ _ Iv rv ⟨a, xs, rfl, .inl (S.sqL r), fin.here S (.int _) (by rw [ra.len]; exact hp)⟩
  · obtain ⟨x, rfl, t⟩ := tv.one
    obtain ⟨a, xs, rfl, r, z, ra⟩ := t.tuple
    exact call_len_seq _ _ _ _ _ _ _ Iv rv ⟨a, xs, rfl, .inr (S.sqT r), fin.here S (.int _) (by rw [ra.len]; exact hp)⟩
  · obtain ⟨x, rfl, t⟩ := tv.one
    cases t.str
    exact call_len_str _ _ _ _ _ _ _ Iv rv ⟨_, rfl, hp.1, fin.here S (.int _) hp.2⟩
  · obtain ⟨x, rfl, t⟩ := tv.one
    obtain ⟨a, kvs, rfl, r, q⟩ := t.dictK
    obtain ⟨u, rfl, ru⟩ := vals1 rv
    cases ru
    exact d_len Iv (S.lkd.rd r) fun t s' I' => ⟨.int kvs.length, H, I', ⟨t, rfl⟩, fin.here S (.int _) (by rw [q.len]; exact hp)⟩
  · obtain ⟨x, rfl, t⟩ := tv.one
    obtain ⟨a, kvs, rfl, r, q⟩ := t.dictT
    obtain ⟨u, rfl, ru⟩ := vals1 rv
    cases ru
    exact dt_len Iv (S.lkd.rd r) fun t s' I' => ⟨.int kvs.length, H, I', ⟨t, rfl⟩, fin.here S (.int _) (by rw [q.len]; exact hp)⟩
  · exact hp.elim
def pInt1 : List D → (D → Prop) → Prop
  | [.int i], Q => Q (.int i)
  | _, _ => False
theorem r_int1 : RnD X (.type "int") pInt1 := by
  intro I W pins s σ H ρ xs us ds Qd Q Iv ok S rv tv hp fin
  unfold pInt1 at hp
  split at hp
  · obtain ⟨x, rfl, t⟩ := tv.one
    cases t.int
    exact call_int1 _ _ _ _ _ _ _ Iv rv (.inl ⟨_, rfl, fin.here S (.int _) hp⟩)
  · exact hp.elim
def pAbs : List D → (D → Prop) → Prop
  | [.int i], Q => Q (.int (if i < 0 then -i else i))
  | _, _ => False
theorem r_abs : RnD X (.builtin "abs") pAbs := by
  intro I W pins s σ H ρ xs us ds Qd Q Iv ok S rv tv hp fin
  unfold pAbs at hp
  split at hp
  · obtain ⟨x, rfl, t⟩ := tv.one
    cases t.int
    exact call_abs _ _ _ _ _ _ _ Iv rv ⟨_, rfl, fin.here S (.int _) hp⟩
  · exact hp.elim
def pStr1 : List D → (D → Prop) → Prop
  | [.int i], Q => i.natAbs.log2 < 1920 ∧ Q (.str (toString i))
  | _, _ => False
theorem r_str1 : RnD X (.type "str") pStr1 := by
  intro I W pins s σ H ρ xs us ds Qd Q Iv ok S rv tv hp fin
  unfold pStr1 at hp
  split at hp
  · obtain ⟨x, rfl, t⟩ := tv.one
    cases t.int
    exact call_str_int _ _ _ _ _ _ _ Iv rv ⟨_, rfl, hp.1, fin.here S (.str _) hp.2⟩
  · exact hp.elim
open PySem.W in
def MinOk (x : D) (xs : List D) : Prop := AlikeAll (x :: xs) ∧ PyData.plainAll (x :: xs) = true ∧ PyData.depthAll (x :: xs) ≤ 150
theorem plain_at {h : Heap} : ∀ {vs : List Value} {ds : List D} {as : List Addr}, ReadsAll h vs ds as → ∀ {i : Nat} {v : Value} {d : D}, vs[i]? = some v → ds[i]? = some d → ∃ bs, Reads h v d bs
  | _, _, _, .nil, _, _, _, hv, _ => by simp at hv
  | _, _, _, .cons a t, 0, _, _, hv, hd => by simp at hv hd; subst hv hd; exact ⟨_, a⟩
  | _, _, _, .cons a t, i + 1, _, _, hv, hd => plain_at t (i := i) (by simpa using hv) (by simpa using hd)
/-- the item that min, max hands back -/
theorem pick_rep {K : PySem.W.Frag} {av : Addr → Prop} {Hl : Hp} {s : Shared} {its : List Value} {xs : List V} {ds : List D} {as : List Addr} (rv : Vals xs its) (ra : RepA K av Hl xs ds) (hr : ReadsAll s.heap its ds as) (hp : PyData.plainAll ds = true)
    {i : Nat} {v : Value} {h' : Heap} {m : D} {bs : List Addr} (hv : its[i]? = some v) (hm : Reads h' v m bs) (hk : ∀ b o, s.heap.get? b = some o → h'.get? b = some o) : ∃ x, RelV x v ∧ Rep K av Hl x m := by
  have hi : i < its.length := (List.getElem?_eq_some_iff.mp hv).1
  have hl := rv.length
  obtain ⟨x, hx⟩ : ∃ x, xs[i]? = some x := ⟨xs[i], List.getElem?_eq_getElem (by omega)⟩
  obtain ⟨d, hd, rd⟩ := ra.got hx
  obtain ⟨u, hu, ru⟩ := rv.get hx
  rw [hv] at hu; cases hu
  obtain ⟨cs, r2⟩ := plain_at hr hv hd
  have hpd : d.plain = true := PySem.W.plain_mem hp (List.mem_of_getElem? hd)
  have e : d = m := SeqAt.plain_unique _ _ _ _ _ hpd (Reads.keeps hk r2) hm
  subst e
  exact ⟨x, ru, rd⟩
theorem seq_reads {I : SI} {W : DW} {pins : List (Addr × Obj)} {s : Shared} {σ : St} {H : Hp} {ρ : En} {its : List Value} {xs : List V} {ds : List D} (Iv : Inv X pins σ H s) (S : SR I W X.K σ H ρ) (rv : Vals xs its) (ra : RepA X.K (avA W I.own σ ρ) (unl W.L H) xs ds) (hp : PyData.plainAll ds = true) : ∃ as, ReadsAll s.heap its ds as :=
  Dp.readsAll Iv ds xs its (ra.dp S.lkd ds hp) rv
open PySem.W in
def pMin : List D → (D → Prop) → Prop
  | [.list (x :: xs)], Q => MinOk x xs ∧ Q (minD x xs)
  | [.tuple (x :: xs)], Q => MinOk x xs ∧ Q (minD x xs)
  | [.int i, .int j], Q => Q (.int (if j < i then j else i))
  | _, _ => False
open PySem.W in
def pMax : List D → (D → Prop) → Prop
  | [.list (x :: xs)], Q => MinOk x xs ∧ Q (maxD x xs)
  | [.tuple (x :: xs)], Q => MinOk x xs ∧ Q (maxD x xs)
  | [.int i, .int j], Q => Q (.int (if i < j then j else i))
  | _, _ => False
theorem r_min (hc : X.calm = true) (hu : X.A.units + 200 < cLine) : RnD X (.builtin "min") pMin := by
  intro I W pins s σ H ρ xs us ds Qd Q Iv ok S rv tv hp fin
  unfold pMin at hp
  split at hp
  · obtain ⟨⟨h1, h2, h3⟩, hq⟩ := hp
    obtain ⟨x, rfl, t⟩ := tv.one
    obtain ⟨a, xs, rfl, r, z, ra⟩ := t.list
    obtain ⟨u, rfl, ru⟩ := vals1 rv
    cases ru
    obtain ⟨its, r1, pl, _⟩ := Iv.list (S.sqL r)
    obtain ⟨as, hr⟩ := seq_reads Iv S r1 ra h2
    refine PySem.W.min_list_data (Iv.ok.hd hc) pl.isList (by simpa using hr) h1 (by omega) fun i v h' tk bs hv hm hk => ?_
    obtain ⟨y, ry, rep⟩ := pick_rep (s := s) r1 ra hr h2 (by simpa using hv) hm hk
    exact ⟨y, H, Iv.kept hk, ry, fin.here S rep hq⟩
  · obtain ⟨⟨h1, h2, h3⟩, hq⟩ := hp
    obtain ⟨x, rfl, t⟩ := tv.one
    obtain ⟨a, xs, rfl, r, z, ra⟩ := t.tuple
    obtain ⟨u, rfl, ru⟩ := vals1 rv
    cases ru
    obtain ⟨its, r1, ⟨o, ho, hcl, n, hdt⟩, _⟩ := Iv.tuple (S.sqT r)
    obtain ⟨as, hr⟩ := seq_reads Iv S r1 ra h2
    refine PySem.W.min_tuple_data (Iv.ok.hd hc) ⟨o, ho, hcl, n, hdt⟩ (by simpa using hr) h1 (by omega) fun i v h' tk bs hv hm hk => ?_
    obtain ⟨y, ry, rep⟩ := pick_rep (s := s) r1 ra hr h2 (by simpa using hv) hm hk
    exact ⟨y, H, Iv.kept hk, ry, fin.here S rep hq⟩
  · obtain ⟨x, y, rfl, t1, t2⟩ := tv.two
    cases t1.int; cases t2.int
    exact call_min2 hc _ _ _ _ _ _ _ Iv rv ⟨_, _, rfl, fin.here S (.int _) hp⟩
  · exact hp.elim
theorem r_max (hc : X.calm = true) (hu : X.A.units + 200 < cLine) : RnD X (.builtin "max") pMax := by
  intro I W pins s σ H ρ xs us ds Qd Q Iv ok S rv tv hp fin
  unfold pMax at hp
  split at hp
  · obtain ⟨⟨h1, h2, h3⟩, hq⟩ := hp
    obtain ⟨x, rfl, t⟩ := tv.one
    obtain ⟨a, xs, rfl, r, z, ra⟩ := t.list
    obtain ⟨u, rfl, ru⟩ := vals1 rv
    cases ru
    obtain ⟨its, r1, pl, _⟩ := Iv.list (S.sqL r)
    obtain ⟨as, hr⟩ := seq_reads Iv S r1 ra h2
    refine PySem.W.max_list_data (Iv.ok.hd hc) pl.isList (by simpa using hr) h1 (by omega) fun i v h' tk bs hv hm hk => ?_
    obtain ⟨y, ry, rep⟩ := pick_rep (s := s) r1 ra hr h2 (by simpa using hv) hm hk
    exact ⟨y, H, Iv.kept hk, ry, fin.here S rep hq⟩
  · obtain ⟨⟨h1, h2, h3⟩, hq⟩ := hp
    obtain ⟨x, rfl, t⟩ := tv.one
    obtain ⟨a, xs, rfl, r, z, ra⟩ := t.tuple
    obtain ⟨u, rfl, ru⟩ := vals1 rv
    cases ru
    obtain ⟨its, r1, ⟨o, ho, hcl, n, hdt⟩, _⟩ := Iv.tuple (S.sqT r)
    obtain ⟨as, hr⟩ := seq_reads Iv S r1 ra h2
    refine PySem.W.max_tuple_data (Iv.ok.hd hc) ⟨o, ho, hcl, n, hdt⟩ (by simpa using hr) h1 (by omega) fun i v h' tk bs hv hm hk => ?_
    obtain ⟨y, ry, rep⟩ := pick_rep (s := s) r1 ra hr h2 (by simpa using hv) hm hk
    exact ⟨y, H, Iv.kept hk, ry, fin.here S rep hq⟩
  · obtain ⟨x, y, rfl, t1, t2⟩ := tv.two
    cases t1.int; cases t2.int
    exact call_max2 hc _ _ _ _ _ _ _ Iv rv ⟨_, _, rfl, fin.here S (.int _) hp⟩
  · exact hp.elim
def allB : List D → Option (List Bool)
  | [] => some []
  | .bool b :: r => (allB r).map (b :: ·)
  | _ :: _ => none
theorem allB_map : ∀ {ds : List D} {bs : List Bool}, allB ds = some bs → ds = bs.map .bool
  | [], bs, h => by cases h; rfl
  | .bool b :: r, bs, h => by
    rw [allB] at h
    obtain ⟨cs, h1, rfl⟩ := Option.map_eq_some_iff.mp h
    rw [allB_map h1]; rfl
  | .none :: _, _, h => nomatch h
  | .int _ :: _, _, h => nomatch h
  | .str _ :: _, _, h => nomatch h
  | .list _ :: _, _, h => nomatch h
  | .tuple _ :: _, _, h => nomatch h
  | .dict _ :: _, _, h => nomatch h
theorem RepA.bools {K : PySem.W.Frag} {av : Addr → Prop} {H : Hp} : ∀ {xs : List V} (bs : List Bool), RepA K av H xs (bs.map .bool) → xs = bs.map V.bl
  | _, [], h => by cases h; rfl
  | _, b :: bs, h => by
    have h' : RepA K av H _ (.bool b :: bs.map .bool) := h
    cases h' with | cons a t => cases a; rw [RepA.bools bs t]; rfl
theorem RepA.ints {K : PySem.W.Frag} {av : Addr → Prop} {H : Hp} : ∀ {xs : List V} (bs : List Int), RepA K av H xs (bs.map .int) → xs = bs.map V.int
  | _, [], h => by cases h; rfl
  | _, b :: bs, h => by
    have h' : RepA K av H _ (.int b :: bs.map .int) := h
    cases h' with | cons a t => cases a; rw [RepA.ints bs t]; rfl
def pAny : List D → (D → Prop) → Prop
  | [.list ds], Q => ∃ bs : List Bool, ds = bs.map .bool ∧ Q (.bool (bs.any id))
  | _, _ => False
def pAll : List D → (D → Prop) → Prop
  | [.list ds], Q => ∃ bs : List Bool, ds = bs.map .bool ∧ Q (.bool (bs.all id))
  | _, _ => False
theorem r_any (hc : X.calm = true) : RnD X (.builtin "any") pAny := by
  intro I W pins s σ H ρ xs us ds Qd Q Iv ok S rv tv hp fin
  unfold pAny at hp
  split at hp
  · obtain ⟨bs, rfl, hq⟩ := hp
    obtain ⟨x, rfl, t⟩ := tv.one
    obtain ⟨a, xs, rfl, r, z, ra⟩ := t.list
    rw [ra.bools bs] at r
    exact cr_any hc _ _ _ _ _ _ _ Iv rv ⟨a, bs, rfl, S.sqL r, fin.here S (.bl _) hq⟩
  · exact hp.elim
theorem r_all (hc : X.calm = true) : RnD X (.builtin "all") pAll := by
  intro I W pins s σ H ρ xs us ds Qd Q Iv ok S rv tv hp fin
  unfold pAll at hp
  split at hp
  · obtain ⟨bs, rfl, hq⟩ := hp
    obtain ⟨x, rfl, t⟩ := tv.one
    obtain ⟨a, xs, rfl, r, z, ra⟩ := t.list
    rw [ra.bools bs] at r
    exact cr_all hc _ _ _ _ _ _ _ Iv rv ⟨a, bs, rfl, S.sqL r, fin.here S (.bl _) hq⟩
  · exact hp.elim
def pSum : List D → (D → Prop) → Prop
  | [.list ds], Q => ∃ ns : List Int, ds = ns.map .int ∧ Q (.int ns.sum)
  | _, _ => False
theorem r_sum (hc : X.calm = true) : RnD X (.builtin "sum") pSum := by
  intro I W pins s σ H ρ xs us ds Qd Q Iv ok S rv tv hp fin
  unfold pSum at hp
  split at hp
  · obtain ⟨bs, rfl, hq⟩ := hp
    obtain ⟨x, rfl, t⟩ := tv.one
    obtain ⟨a, xs, rfl, r, z, ra⟩ := t.list
    rw [ra.ints bs] at r
    exact cr_sum hc _ _ _ _ _ _ _ Iv rv ⟨a, bs, rfl, S.sqL r, fin.here S (.int _) hq⟩
  · exact hp.elim
def pListOf : List D → (D → Prop) → Prop
  | [.list ds], Q => Q (.list ds)
  | [.tuple ds], Q => Q (.list ds)
  | [.dict ((.none, .none) :: es)], Q => Q (.list (es.map (·.1)))
  | [.dict ((.none, .bool true) :: es)], Q => Q (.list (es.map (·.1)))
  | _, _ => False
theorem RepK.keys {K : PySem.W.Frag} {av : Addr → Prop} {H : Hp} : ∀ {kvs : List (Key × V)} {es : List (D × D)}, RepK K av H kvs es → RepA K av H (kvs.map fun kv => kV kv.1) (es.map (·.1))
  | _, _, .nil => .nil
  | _, _, .cons (k := k) h t => by
    refine .cons ?_ (RepK.keys t)
    cases k with
    | inl i => exact .int i
    | inr x => exact .str x
theorem Dk.len {K : PySem.W.Frag} {av : Addr → Prop} {H : Hp} {P : Program} {w : World} {h : Heap} {a : Addr} {kvs : List (Key × V)} (ok : HOk P w H h) (e : Rd H a (.dK kvs)) : kvs.length ≤ sizeLine := (dk_rd ok e).1
theorem Lkd.unt {L : List (Addr × Obj × HO)} {H : Hp} (l : Lkd L H) {b : Addr} {xs : List V} (h : H b = some (.tup xs)) : unl L H b = some (.tup xs) := by
  cases e : L.lookup b with
  | none => exact (unl_none e).trans h
  | some w =>
    obtain ⟨mu, ho⟩ := l b w e
    rw [h] at ho; cases ho
theorem keyRep {K : PySem.W.Frag} {av : Addr → Prop} {H : Hp} (k : Key) : Rep K av H (kV k) (keyD k) := by
  cases k with
  | inl i => exact .int i
  | inr x => exact .str x
theorem keysRep {K : PySem.W.Frag} {av : Addr → Prop} {H : Hp} : ∀ ks : List Key, RepA K av H (ks.map kV) (ks.map keyD)
  | [] => .nil
  | k :: ks => .cons (keyRep k) (keysRep ks)
/-- a key's tuple -/
theorem SR.keyTup {I : SI} {W : DW} {K : PySem.W.Frag} {σ : St} {H : Hp} {ρ : En} (S : SR I W K σ H ρ) {P : Program} {w : World} {h : Heap} (ok : HOk P w H h) {b : Addr} {k : List Key} (n : k ≠ []) (e : H b = some (.tup (k.map kV))) :
    Rep K (avA W I.own σ ρ) (unl W.L H) (.ref b) (.tuple (k.map keyD)) :=
  .tup (S.tupAv (S.lkd.unt e)) ⟨{ cls := .none, data := .fields #[] }, rfl, by rw [tupH_key n]; exact S.lkd.unt e⟩ (ok b _ e).1 (keysRep k)
theorem repT_keys {I : SI} {W : DW} {K : PySem.W.Frag} {σ : St} {H : Hp} {ρ : En} (S : SR I W K σ H ρ) {P : Program} {w : World} {h : Heap} (ok : HOk P w H h) : ∀ {kvs : List (List Key × V)} {es : List (D × D)} {bs : List Addr}, RepT K (avA W I.own σ ρ) (unl W.L H) kvs es → IsKeys H kvs bs →
    RepA K (avA W I.own σ ρ) (unl W.L H) (bs.map V.ref) (es.map (·.1))
  | _, _, _, .nil, .nil => .nil
  | _, _, _, .cons n h t, .cons a r => .cons (S.keyTup ok n a) (repT_keys S ok t r)
theorem r_listOf (hc : X.calm = true) : RnF X (.type "list") pListOf := by
  intro I W pins s σ H ρ xs us ds Qd Q Iv ok S rv tv hp fin
  unfold pListOf at hp
  split at hp
  · obtain ⟨x, rfl, t⟩ := tv.one
    obtain ⟨a, xs, rfl, r, z, ra⟩ := t.list
    exact call_list_of _ _ _ _ _ _ _ Iv rv ⟨a, xs, rfl, .inl (S.sqL r), fun l hl => fin.newL ok S hl z ra hp⟩
  · obtain ⟨x, rfl, t⟩ := tv.one
    obtain ⟨a, xs, rfl, r, z, ra⟩ := t.tuple
    exact call_list_of _ _ _ _ _ _ _ Iv rv ⟨a, xs, rfl, .inr (S.sqT r), fun l hl => fin.newL ok S hl z ra hp⟩
  · obtain ⟨x, rfl, t⟩ := tv.one
    obtain ⟨a, kvs, rfl, r, q⟩ := t.dictK
    exact call_listD hc _ _ _ _ _ _ _ Iv rv ⟨a, kvs, rfl, S.lkd.rd r, fun l hl => fin.newL ok S hl (by rw [List.length_map]; exact (dk_rd Iv.hok (S.lkd.rd r)).1) q.keys hp⟩
  · obtain ⟨x, rfl, t⟩ := tv.one
    obtain ⟨a, kvs, rfl, r, q⟩ := t.dictT
    exact call_list_dT hc _ _ _ _ _ _ _ Iv rv ⟨a, kvs, rfl, S.lkd.rd r, fun l bs hl hk => fin.newL ok S hl (by rw [List.length_map, ← Paired.length hk]; exact (dt_rd Iv.hok (S.lkd.rd r)).1) (repT_keys S Iv.hok q hk) hp⟩
  · exact hp.elim
/-- tuple(x) of what may be kept -/
def pTupOf : List D → (D → Prop) → Prop
  | [.list ds], Q => Q (.tuple ds)
  | _, _ => False
theorem r_tupOf : RnD X (.type "tuple") pTupOf := by
  intro I W pins s σ H ρ xs us ds Qd Q Iv ok S rv tv hp fin
  unfold pTupOf at hp
  split at hp
  · obtain ⟨x, rfl, t⟩ := tv.one
    obtain ⟨a, xs, rfl, r, z, ra⟩ := t.list
    exact call_tuple_H _ _ _ _ _ _ _ Iv rv ⟨a, xs, rfl, .inl ⟨S.sqL r, fun l o hl ho => fin.newT ok S ho hl z ra hp⟩⟩
  · exact hp.elim
end
end PyD
namespace PyD
open PySem PySem.Spec L2
open PyProof.Rows hiding St
section
variable {prog : Program} {w : World} {A : Around} {E : Value → Shared → Prop} {s : Shared}
theorem collect_tuple {l : Addr} {vs : List Value} {Q : List Value → Shared → Prop} (hl : s.heap.IsTuple l vs.toArray)
    (h : Q vs { s with heap := (s.heap.push (seqObj "list" #[] 0)).update s.heap.objs.size (Obj.mapSeq (· ++ vs.toArray)) }) (hsz : vs.length ≤ sizeLine) :
    wpAny (model prog w) A (collect (.ref l)) Q E s := by
  obtain ⟨o, ho, hc, n, hd⟩ := id hl
  unfold collect
  refine wpAny_bind (wpAny_runValue (codeAny_builtin entry_proto_collect' ?_))
  show wpAny _ _ (do again (.builtin "list.__iadd__" ⟨[← newList [], .ref l], []⟩)) _ _ s
  refine wpAny_bind (wpAny_newList (wpAny_pure ⟨Code.quiet_builtin _ (by decide +kernel), codeAny_builtin entry_list_iadd' ?_⟩))
  show wpAny _ _ (Builtin.List.listExtendWith (.ref s.heap.objs.size) (.ref l) (.ref s.heap.objs.size)) _ _ { s with heap := s.heap.push (seqObj "list" #[] 0) }
  unfold Builtin.List.listExtendWith
  have ho' : (s.heap.push (seqObj "list" #[] 0)).get? l = some o := Heap.get?_push_of_some _ ho
  refine wpAny_bind (wpAny_typeOf (T := "tuple") ⟨o, ho', hc⟩ ?_)
  rw [if_pos (by rw [show (Value.type "tuple" == Value.type "tuple") = true from rfl]; simp)]
  refine wpAny_bind (listItems_at ho' hd ?_)
  refine wpAny_bind (listItems_at (xs := #[]) (n := 0) (Heap.get?_push_size _ rfl) rfl ?_)
  rw [if_neg (by simp)]
  refine wpAny_bind (listUpdate_at (xs := #[]) (n := 0) (Heap.get?_push_size _ rfl) rfl ?_ (Nat.zero_le _) (by show (#[] ++ vs.toArray).size ≤ sizeLine + 1; simp only [Array.size_append, List.size_toArray, List.length_nil]; omega))
  refine wpAny_pure ?_
  show wpAny (model prog w) A (do
      let o ← load s.heap.objs.size
      match o.data with
      | .seq xs _ => pure xs.toList
      | _ => unsupported "internal:collect") Q E { s with heap := (s.heap.push (seqObj "list" #[] 0)).update s.heap.objs.size (Obj.mapSeq (· ++ vs.toArray)) }
  refine wpAny_bind (wpAny_load (get?_update_seq (Heap.get?_push_size _ rfl) _) ?_)
  show wpAny _ _ (pure ((#[] : Array Value) ++ vs.toArray).toList) Q E _
  rw [show ((#[] : Array Value) ++ vs.toArray).toList = vs by simp]
  exact wpAny_pure h
end
/-- what is walked when one asks x for its items -/
def itemsD : D → Option (List D)
  | .list ds => some ds
  | .tuple ds => some ds
  | .dict ((.none, .none) :: es) => some (es.map (·.1))
  | .dict ((.none, .bool true) :: es) => some (es.map (·.1))
  | _ => none
theorem push_upd_keep {h : Heap} {f : Obj → Obj} {o : Obj} : ∀ b ob, h.get? b = some ob → ((h.push o).update h.objs.size f).get? b = some ob := fun b ob e => by
  rw [Heap.get?_update_ne _ _ _ _ (Nat.ne_of_lt (Heap.lt_size e)), Heap.get?_push_ne _ _ _ (Nat.ne_of_lt (Heap.lt_size e))]
  exact e
section
variable {X : Cx} {I : SI} {W : DW} {pins : List (Addr × Obj)} {s : Shared} {σ : St} {H : Hp} {ρ : En}
theorem collectD (hc : X.calm = true) {A : Around} (hA : A.handled = none) (Iv : Inv X pins σ H s) (S : SR I W X.K σ H ρ) {x : V} {u : Value} {d : D} {ds : List D} (rx : RelV x u) (tx : Top X.K W.bx (avA W I.own σ ρ) (unl W.L H) x d) (hd : itemsD d = some ds)
    {R : List Value → Shared → Prop} {E : Value → Shared → Prop} (h : ∀ xs its h' tk, Vals xs its → RepA X.K (avA W I.own σ ρ) (unl W.L H) xs ds → xs.length ≤ sizeLine → (∀ b o, s.heap.get? b = some o → h'.get? b = some o) → R its { s with heap := h', toks := tk }) :
    wpAny (model X.prog X.w) A (collect u) R E s := by
  unfold itemsD at hd
  split at hd
  · cases hd
    obtain ⟨a, xs, rfl, r, z, ra⟩ := tx.list
    cases rx
    obtain ⟨its, r1, pl, _⟩ := Iv.list (S.sqL r)
    exact collect_list pl.isList (h xs its _ s.toks r1 ra z push_upd_keep) (by rw [← r1.length]; exact z)
  · cases hd
    obtain ⟨a, xs, rfl, r, z, ra⟩ := tx.tuple
    cases rx
    obtain ⟨its, r1, ⟨o, ho, hcl, n, hdt⟩, _⟩ := Iv.tuple (S.sqT r)
    exact collect_tuple ⟨o, ho, hcl, n, hdt⟩ (h xs its _ s.toks r1 ra z push_upd_keep) (by rw [← r1.length]; exact z)
  · cases hd
    obtain ⟨a, kvs, rfl, r, q⟩ := tx.dictK
    cases rx
    obtain ⟨z, lo, vs, rel, dd⟩ := dk_rd Iv.hok (S.lkd.rd r)
    obtain ⟨ep, hat⟩ := dd.dictAt
    have ek : (kvs.map fun kv => kV kv.1) = vs.map fun p => kV p.1 := by
      have e := congrArg (List.map kV) rel.keys
      rw [List.map_map, List.map_map] at e
      exact e
    refine PySem.W.kdu_collect (PySem.W.kdl_dict (knd := mixKind X.prog X.w) (kvs := vs) (ep := ep) lo) hA hat (by rw [← rel.length]; exact z) fun h' tk acc hk hacc => ?_
    have hv : Vals (vs.map fun p => kV p.1) acc.toList := keys_at (by rw [Array.length_toList]; exact hacc.1) fun j v e => hacc.2 j v (by rw [← Array.getElem?_toList]; exact e)
    rw [← ek] at hv
    exact h _ _ h' tk hv q.keys (by rw [List.length_map]; exact z) hk
  · cases hd
    obtain ⟨a, kvs, rfl, r, q⟩ := tx.dictT
    cases rx
    obtain ⟨z, hs, ks, pr, o, es, ep, ho, hx, hdt, he, hn⟩ := (show ObjOk X.prog X.w H s.heap a (.dT kvs) from (S.lkd.rd r).ok Iv.hok)
    have l1 : es.size = ks.length := size_of_entries he
    have l2 : kvs.length = ks.length := Paired.length pr
    refine PySem.W.kdu_collect (kdl_raw hs hx hdt) hA ho (by omega) fun h' tk acc' kp it => ?_
    have ea : acc'.toList = ks.map fun x => Value.ref x.2.1 := by
      have hl : acc'.toList.length = ks.length := by rw [Array.length_toList, it.1]; exact l1
      apply List.ext_getElem?
      intro j
      rw [List.getElem?_map]
      cases hj : acc'.toList[j]? with
      | none =>
        have h1 := List.getElem?_eq_none_iff.mp hj
        rw [List.getElem?_eq_none (by omega)]
        all_goals rfl
      | some v =>
        obtain ⟨en, hen, hv⟩ := it.2 j v (by rw [← Array.getElem?_toList]; exact hj)
        have qe := entry_at he j
        rw [hen] at qe
        cases hb : ks[j]? with
        | none =>
          rw [hb] at qe
          cases qe
        | some y =>
          rw [hb] at qe
          have e2 := Option.some.inj qe
          rw [hv, e2]
          rfl
    rw [ea]
    have hk := isKeys_of pr
    have hm : (ks.map fun x => Value.ref x.2.1) = (ks.map fun x => x.2.1).map Value.ref := by rw [List.map_map]; rfl
    rw [hm]
    exact h _ _ h' tk (vals_refs _) (repT_keys S Iv.hok q hk) (by rw [List.length_map, List.length_map]; omega) kp
  · cases hd
end
open PySem.W in
def SortOk (ds : List D) : Prop := AllAlike ds ∧ Sortable ds ∧ PyData.plainAll ds = true ∧ PyData.depthAll ds ≤ 150
open PySem.W in
def sortD (ds : List D) : List D := ds.mergeSort (dataLe false fun d => d)
def pSorted : List D → (D → Prop) → Prop
  | [d], Q => ∃ ds, itemsD d = some ds ∧ SortOk ds ∧ Q (.list (sortD ds))
  | _, _ => False
theorem each_of {h : Heap} : ∀ {vs : List Value} {ds : List D} {as : List Addr}, ReadsAll h vs ds as → PySem.W.EachIs (fun v d => ∃ as, Reads h v d as) vs ds
  | _, _, _, .nil => .nil
  | _, _, _, .cons a t => .cons ⟨_, a⟩ (each_of t)
theorem each_rep {K : PySem.W.Frag} {av : Addr → Prop} {H : Hp} : ∀ {vs : List Value} {xs : List V} {ds : List D}, Vals xs vs → RepA K av H xs ds → PySem.W.EachIs (fun v d => ∃ x, RelV x v ∧ Rep K av H x d) vs ds
  | _, _, _, .nil, .nil => .nil
  | _, _, _, .cons r t, .cons a q => .cons ⟨_, r, a⟩ (each_rep t q)
theorem rep_each {K : PySem.W.Frag} {av : Addr → Prop} {H : Hp} : ∀ {vs : List Value} {ds : List D}, PySem.W.EachIs (fun v d => ∃ x, RelV x v ∧ Rep K av H x d) vs ds → ∃ xs, Vals xs vs ∧ RepA K av H xs ds
  | _, _, .nil => ⟨[], .nil, .nil⟩
  | _, _, .cons ⟨x, r, a⟩ t => by
    obtain ⟨xs, h1, h2⟩ := rep_each t
    exact ⟨x :: xs, .cons r h1, .cons a h2⟩
theorem depth_mem : ∀ {ds : List D} {d : D}, d ∈ ds → d.depth ≤ PyData.depthAll ds
  | e :: ds, d, h => by
    rw [PyData.depthAll]
    rcases List.mem_cons.mp h with rfl | h
    · exact Nat.le_max_left _ _
    · exact Nat.le_trans (depth_mem h) (Nat.le_max_right _ _)
theorem r_sorted {X : Cx} (hc : X.calm = true) (hu : X.A.units + 200 < cLine) : RnF X (.builtin "sorted") pSorted := by
  intro I W pins s σ H ρ xs us ds Qd Q Iv ok S rv tv hp fin
  unfold pSorted at hp
  split at hp
  · rename_i d
    obtain ⟨es, hi, ⟨hal, hso, hpl, hdp⟩, hq⟩ := hp
    obtain ⟨x, rfl, t⟩ := tv.one
    obtain ⟨u, rfl, ru⟩ := vals1 rv
    refine Calls.call_function_entry PyProof.Rows.kind_sorted PyProof.Rows.plain_sorted PyProof.Rows.entry_sorted (PyProof.Rows.args_sorted1 _) ?_
    unfold Builtin.«sorted»
    refine wpAny_bind (m := checkCount "sorted" 1 1 _) (wpAny_pure ?_)
    refine wpAny_bind (collectD (A := X.A.in1) hc (Iv.ok.hd hc) Iv S ru t hi fun ys its h' tk r1 ra z hk => ?_)
    have I1 : Inv X pins σ H { s with heap := h', toks := tk } := Iv.kept hk
    obtain ⟨as, hr⟩ := seq_reads I1 S r1 ra hpl
    have hL : its.length ≤ sizeLine := by rw [← r1.length]; exact z
    refine wpAny_bind (wpAny_newList ?_ hL)
    have hat : (h'.push { cls := .type "list", data := .seq its.toArray }).get? h'.objs.size = some (seqObj "list" its.toArray 0) := Heap.get?_push_size _ rfl
    have hr2 : PySem.W.EachIs (fun v d => ∃ as, Reads (PySem.W.sortingHeap (h'.push { cls := .type "list", data := .seq its.toArray }) h'.objs.size its) v d as) its es :=
      (each_of hr).mono fun v d ⟨as, q⟩ => ⟨as, Reads.keeps (fun b o e => PySem.W.sortingHeap_old (Nat.ne_of_lt (Heap.lt_size e)) (Heap.get?_push_of_some _ e)) q⟩
    have hS := PySem.W.SortsAt.data (prog := X.prog) (w := X.w) (A := X.A.in1.in1) (s := { s with heap := PySem.W.sortingHeap (h'.push { cls := .type "list", data := .seq its.toArray }) h'.objs.size its, toks := tk }) hr2 hal hso
      (fun d hd => by have := depth_mem hd; show X.A.units + 1 + 1 + _ < _; omega)
    refine wpAny_bind (wpAny_holding (wpAny_call_entry PyProof.Rows.slot_list_sort ⟨_, hat, rfl⟩ PyProof.Rows.entry_list_sort ?body (PyProof.Rows.args_list_sort _)))
    case body =>
      refine PySem.W.list_sort_vals (s := { s with heap := h'.push { cls := .type "list", data := .seq its.toArray }, toks := tk }) hat hS hL ?_
      refine ⟨_, rfl, wpAny_pure ⟨_, rfl, ?_⟩⟩
      have out := PySem.W.sortVals_data (β := D) (enc := fun d => d) false (each_rep r1 ra) hr2 (by simpa using hal)
      simp only [List.map_id'] at out
      obtain ⟨zs, v1, v2⟩ := rep_each out
      have hn : H h'.objs.size = none := I1.hok.fresh (Nat.le_refl _)
      have hzl : zs.length ≤ sizeLine := by
        rw [v2.len, List.length_mergeSort, ← ra.len]; exact z
      obtain ⟨c, hc2⟩ := sortedHeap_at (vs := its) (out := (PySem.W.sortVals (PySem.W.dataKind (PySem.W.sortingHeap (h'.push { cls := .type "list", data := .seq its.toArray }) h'.objs.size its) es) false its its).toArray) hat
      refine ⟨.ref h'.objs.size, upd H h'.objs.size (.lst zs), I1.laid (t' := tk) (fun b o e => ?_) (Nat.le_refl _) ⟨hzl, _, c, v1, hc2⟩, rfl, fin.newL ok S hn hzl v2 hq⟩
      rw [sortedHeap_old (Nat.ne_of_lt (Heap.lt_size e)) (by rw [size_push']; exact Nat.lt_succ_of_lt (Heap.lt_size e))]
      exact Heap.get?_push_of_some _ e
  · exact hp.elim
end PyD
namespace PyD
open PySem PySem.Spec L2
open PyProof.Rows hiding St
section
variable {I : SI} {X : Cx} {e : Expr} {m : ME} {W : DW} {pins : List (Addr × Obj)} {s : Shared} {σ : St} {H : Hp} {ρ : En} {Qd : D → Prop}
theorem DE.run (h : DE I X e m) (Iv : Inv X pins σ H s) (ok : WOk I W) (S : SR I W X.K σ H ρ) (hm : m ρ Qd) {Q : Value → Shared → Prop}
    (k : ∀ u s' v H' d, Inv X pins σ H' s' → RelV v u → Qd d → Ex W H H' → SR I W X.K σ H' ρ → Rep X.K (avA W I.own σ ρ) (unl W.L H') v d → Q u s') : wpAny (model X.prog X.w) X.A (eval e X.env) Q X.xe s :=
  thn (PE.run h pins s σ H (fun v H' => ∃ d, Qd d ∧ Ex W H H' ∧ SR I W X.K σ H' ρ ∧ Rep X.K (avA W I.own σ ρ) (unl W.L H') v d) Iv ⟨W, ρ, Qd, ok, S, hm, fun v H' d q e1 s1 r => ⟨d, q, e1, s1, r⟩⟩)
    fun u s' ⟨v, H', I', r, d, q, e1, s1, rp⟩ => k u s' v H' d I' r q e1 s1 rp
theorem DB.run (h : DB I X e m) (Iv : Inv X pins σ H s) (ok : WOk I W) (S : SR I W X.K σ H ρ) (hm : m ρ Qd) {Q : Value → Shared → Prop}
    (k : ∀ u s' v H' d, Inv X pins σ H' s' → RelV v u → Qd d → Ex W H H' → SR I W X.K σ H' ρ → Top X.K W.bx (avA W I.own σ ρ) (unl W.L H') v d → Q u s') : wpAny (model X.prog X.w) X.A (eval e X.env) Q X.xe s :=
  thn (PE.run h pins s σ H (fun v H' => ∃ d, Qd d ∧ Ex W H H' ∧ SR I W X.K σ H' ρ ∧ Top X.K W.bx (avA W I.own σ ρ) (unl W.L H') v d) Iv ⟨W, ρ, Qd, ok, S, hm, fun v H' d q e1 s1 r => ⟨d, q, e1, s1, r⟩⟩)
    fun u s' ⟨v, H', I', r, d, q, e1, s1, rp⟩ => k u s' v H' d I' r q e1 s1 rp
theorem db (h : DE I X e m) : DB I X e m := pe_imp h fun σ H Q ⟨W, ρ, Qd, ok, S, hm, f⟩ => ⟨W, ρ, Qd, ok, S, hm, f.toE⟩
def mV (i : Nat) : ME := fun ρ Q => match ρ[i]? with
  | some (some d) => Q d
  | _ => False
theorem mV_of {i : Nat} {ρ : En} {Q : D → Prop} (h : mV i ρ Q) : ∃ d, ρ[i]? = some (some d) ∧ Q d := by
  unfold mV at h
  split at h
  · exact ⟨_, by assumption, h⟩
  · exact h.elim
def mC (d : D) : ME := fun _ Q => Q d
theorem de_var (i : Nat) {x : Str} {pos : Pos} (ho : i ∉ I.own) (hN : X.N[i]? = some x) (hv : Vis X.env.scope x) (hd : (x == ("__debug__" : Str)) = false := by decide) (hcd : (x == ("__classdict__" : Str)) = false := by decide) : DE I X (.Name x pos) (mV i) :=
  pe_imp (pe_var hN hv hd hcd) fun σ H Q ⟨W, ρ, Qd, ok, S, hm, f⟩ => by
    obtain ⟨d, hd, hq⟩ := mV_of hm
    obtain ⟨v, hv, r⟩ := S.val i d hd ho
    exact ⟨v, hv, f.here S r hq⟩
theorem db_var (i : Nat) {x : Str} {pos : Pos} (hN : X.N[i]? = some x) (hv : Vis X.env.scope x) (hd : (x == ("__debug__" : Str)) = false := by decide) (hcd : (x == ("__classdict__" : Str)) = false := by decide) : DB I X (.Name x pos) (mV i) :=
  pe_imp (pe_var hN hv hd hcd) fun σ H Q ⟨W, ρ, Qd, ok, S, hm, f⟩ => by
    obtain ⟨d, hd, hq⟩ := mV_of hm
    by_cases ho : i ∈ I.own
    · obtain ⟨a, hv, o, _⟩ := S.own i d hd ho
      exact ⟨.ref a, hv, f _ _ _ hq (Ex.refl W H) S (o.top (S.ownbx ok hd ho hv))⟩
    · obtain ⟨v, hv, r⟩ := S.val i d hd ho
      exact ⟨v, hv, f _ _ _ hq (Ex.refl W H) S (.rep r)⟩
theorem de_int {i : Int} {j pos} : DE I X (.Constant (.int i) j pos) (mC (.int i)) := pe_imp pe_int fun σ H Q ⟨W, ρ, Qd, ok, S, hm, f⟩ => f.here S (.int i) hm
theorem de_bl {b : Bool} {j pos} : DE I X (.Constant (.bool b) j pos) (mC (.bool b)) := pe_imp pe_bl fun σ H Q ⟨W, ρ, Qd, ok, S, hm, f⟩ => f.here S (.bl b) hm
theorem de_non {j pos} : DE I X (.Constant .none j pos) (mC .none) := pe_imp pe_non fun σ H Q ⟨W, ρ, Qd, ok, S, hm, f⟩ => f.here S .non hm
theorem de_str {x : Str} {j pos} : DE I X (.Constant (.str x) j pos) (mC (.str x)) := pe_imp pe_str fun σ H Q ⟨W, ρ, Qd, ok, S, hm, f⟩ => f.here S (.str x) hm
theorem de_gI {x : Str} {i : Int} {u : Value} {pos : Pos} (hg : Gl X x) (hm : X.mg x = some u) (r : RelV (.int i) u) (hd : (x == ("__debug__" : Str)) = false := by decide) : DE I X (.Name x pos) (mC (.int i)) :=
  pe_imp (pe_glob hg hm r hd) fun σ H Q ⟨W, ρ, Qd, ok, S, hq, f⟩ => f.here S (.int i) hq
theorem de_gS {x : Str} {z : Str} {u : Value} {pos : Pos} (hg : Gl X x) (hm : X.mg x = some u) (r : RelV (.str z) u) (hd : (x == ("__debug__" : Str)) = false := by decide) : DE I X (.Name x pos) (mC (.str z)) :=
  pe_imp (pe_glob hg hm r hd) fun σ H Q ⟨W, ρ, Qd, ok, S, hq, f⟩ => f.here S (.str z) hq
def m1 (p : D → (D → Prop) → Prop) (a : ME) : ME := fun ρ Q => a ρ fun d => p d Q
def m2 (p : D → D → (D → Prop) → Prop) (a b : ME) : ME := fun ρ Q => a ρ fun d => b ρ fun e => p d e Q
def mN (p : List D → (D → Prop) → Prop) (a : MA) : ME := fun ρ Q => a ρ fun ds => p ds Q
variable {a b : Expr} {ma mb : ME} {pos : Pos}
theorem twoB (ha : DB I X a ma) (hb : DB I X b mb) (Iv : Inv X pins σ H s) (ok : WOk I W) (S : SR I W X.K σ H ρ) {R : D → D → Prop} (hm : ma ρ fun d => mb ρ fun e => R d e) {α : Type} {Q : α → Shared → Prop} {f : Value → Value → Sem α}
    (k : ∀ v u s2 x y H2 d e, Inv X pins σ H2 s2 → RelV x v → RelV y u → R d e → Ex W H H2 → SR I W X.K σ H2 ρ → Top X.K W.bx (avA W I.own σ ρ) (unl W.L H2) x d → Top X.K W.bx (avA W I.own σ ρ) (unl W.L H2) y e → wpAny (model X.prog X.w) X.A (f v u) Q X.xe s2) :
    wpAny (model X.prog X.w) X.A (eval a X.env) (fun v s1 => wpAny (model X.prog X.w) X.A (eval b X.env) (fun u s2 => wpAny (model X.prog X.w) X.A (f v u) Q X.xe s2) X.xe s1) X.xe s :=
  ha.run Iv ok S hm fun v s1 x H1 d I1 rx q e1 S1 t1 => hb.run I1 ok S1 q fun u s2 y H2 e I2 ry q2 e2 S2 t2 => k v u s2 x y H2 d e I2 rx ry q2 (e1.trans e2) S2 (e2.top ok t1) t2
theorem twoE (ha : DE I X a ma) (hb : DE I X b mb) (Iv : Inv X pins σ H s) (ok : WOk I W) (S : SR I W X.K σ H ρ) {R : D → D → Prop} (hm : ma ρ fun d => mb ρ fun e => R d e) {α : Type} {Q : α → Shared → Prop} {f : Value → Value → Sem α}
    (k : ∀ v u s2 x y H2 d e, Inv X pins σ H2 s2 → RelV x v → RelV y u → R d e → Ex W H H2 → SR I W X.K σ H2 ρ → Rep X.K (avA W I.own σ ρ) (unl W.L H2) x d → Rep X.K (avA W I.own σ ρ) (unl W.L H2) y e → wpAny (model X.prog X.w) X.A (f v u) Q X.xe s2) :
    wpAny (model X.prog X.w) X.A (eval a X.env) (fun v s1 => wpAny (model X.prog X.w) X.A (eval b X.env) (fun u s2 => wpAny (model X.prog X.w) X.A (f v u) Q X.xe s2) X.xe s1) X.xe s :=
  ha.run Iv ok S hm fun v s1 x H1 d I1 rx q e1 S1 t1 => hb.run I1 ok S1 q fun u s2 y H2 e I2 ry q2 e2 S2 t2 => k v u s2 x y H2 d e I2 rx ry q2 (e1.trans e2) S2 (e2.rep ok t1) t2
theorem twoM (ha : DE I X a ma) (hb : DB I X b mb) (Iv : Inv X pins σ H s) (ok : WOk I W) (S : SR I W X.K σ H ρ) {R : D → D → Prop} (hm : ma ρ fun d => mb ρ fun e => R d e) {α : Type} {Q : α → Shared → Prop} {f : Value → Value → Sem α}
    (k : ∀ v u s2 x y H2 d e, Inv X pins σ H2 s2 → RelV x v → RelV y u → R d e → Ex W H H2 → SR I W X.K σ H2 ρ → Rep X.K (avA W I.own σ ρ) (unl W.L H2) x d → Top X.K W.bx (avA W I.own σ ρ) (unl W.L H2) y e → wpAny (model X.prog X.w) X.A (f v u) Q X.xe s2) :
    wpAny (model X.prog X.w) X.A (eval a X.env) (fun v s1 => wpAny (model X.prog X.w) X.A (eval b X.env) (fun u s2 => wpAny (model X.prog X.w) X.A (f v u) Q X.xe s2) X.xe s1) X.xe s :=
  ha.run Iv ok S hm fun v s1 x H1 d I1 rx q e1 S1 t1 => hb.run I1 ok S1 q fun u s2 y H2 e I2 ry q2 e2 S2 t2 => k v u s2 x y H2 d e I2 rx ry q2 (e1.trans e2) S2 (e2.rep ok t1) t2
theorem twoI (ha : DB I X a ma) (hb : DE I X b mb) (Iv : Inv X pins σ H s) (ok : WOk I W) (S : SR I W X.K σ H ρ) {R : D → D → Prop} (hm : ma ρ fun d => mb ρ fun e => R d e) {α : Type} {Q : α → Shared → Prop} {f : Value → Value → Sem α}
    (k : ∀ v u s2 x y H2 d e, Inv X pins σ H2 s2 → RelV x v → RelV y u → R d e → Ex W H H2 → SR I W X.K σ H2 ρ → Top X.K W.bx (avA W I.own σ ρ) (unl W.L H2) x d → Rep X.K (avA W I.own σ ρ) (unl W.L H2) y e → wpAny (model X.prog X.w) X.A (f v u) Q X.xe s2) :
    wpAny (model X.prog X.w) X.A (eval a X.env) (fun v s1 => wpAny (model X.prog X.w) X.A (eval b X.env) (fun u s2 => wpAny (model X.prog X.w) X.A (f v u) Q X.xe s2) X.xe s1) X.xe s :=
  ha.run Iv ok S hm fun v s1 x H1 d I1 rx q e1 S1 t1 => hb.run I1 ok S1 q fun u s2 y H2 e I2 ry q2 e2 S2 t2 => k v u s2 x y H2 d e I2 rx ry q2 (e1.trans e2) S2 (e2.top ok t1) t2
theorem de_bin {op : Operator} {p : D → D → (D → Prop) → Prop} (r : R2D X (binaryOp op) p) (ha : DB I X a ma) (hb : DB I X b mb) : DE I X (.BinOp a op b pos) (m2 p ma mb) := by
  refine ⟨fun pins s σ H Q Iv ⟨W, ρ, Qd, ok, S, hm, f⟩ => ?_⟩
  exact wpAny_BinOp (twoB ha hb Iv ok S hm fun v u s2 x y H2 d e I2 rx ry q e2 S2 t1 t2 => r I2 ok S2 rx ry t1 t2 q (f.ex e2))
theorem de_binE {op : Operator} {p : D → D → (D → Prop) → Prop} (r : R2E X (binaryOp op) p) (ha : DE I X a ma) (hb : DE I X b mb) : DE I X (.BinOp a op b pos) (m2 p ma mb) := by
  refine ⟨fun pins s σ H Q Iv ⟨W, ρ, Qd, ok, S, hm, f⟩ => ?_⟩
  exact wpAny_BinOp (twoE ha hb Iv ok S hm fun v u s2 x y H2 d e I2 rx ry q e2 S2 t1 t2 => r I2 ok S2 rx ry t1 t2 q (f.ex e2))
theorem de_cmp {op : CmpOp} {p : D → D → (D → Prop) → Prop} (r : R2D X (compareOp op) p) (ha : DB I X a ma) (hb : DB I X b mb) (h1 : behindInMarks op b = false := by first | exact nobehind _ (by decide) (by decide) | rfl) : DE I X (.Compare a [op] [b] pos) (m2 p ma mb) := by
  refine ⟨fun pins s σ H Q Iv ⟨W, ρ, Qd, ok, S, hm, f⟩ => ?_⟩
  exact wpAny_Compare1 (twoB ha hb Iv ok S hm fun v u s2 x y H2 d e I2 rx ry q e2 S2 t1 t2 => r I2 ok S2 rx ry t1 t2 q (f.ex e2)) h1
theorem de_cmpM {op : CmpOp} {p : D → D → (D → Prop) → Prop} (r : R2M X (compareOp op) p) (ha : DE I X a ma) (hb : DB I X b mb) (h1 : behindInMarks op b = false := by first | exact nobehind _ (by decide) (by decide) | rfl) : DE I X (.Compare a [op] [b] pos) (m2 p ma mb) := by
  refine ⟨fun pins s σ H Q Iv ⟨W, ρ, Qd, ok, S, hm, f⟩ => ?_⟩
  exact wpAny_Compare1 (twoM ha hb Iv ok S hm fun v u s2 x y H2 d e I2 rx ry q e2 S2 t1 t2 => r I2 ok S2 rx ry t1 t2 q (f.ex e2)) h1
def pNeg : D → (D → Prop) → Prop
  | .int i, Q => Q (.int (-i))
  | _, _ => False
theorem de_neg (ha : DB I X a ma) : DE I X (.UnaryOp .USub a pos) (m1 pNeg ma) := by
  refine ⟨fun pins s σ H Q Iv ⟨W, ρ, Qd, ok, S, hm, f⟩ => ?_⟩
  refine UnaryOp_ (ha.run Iv ok S hm fun u s1 x H1 d I1 rx q e1 S1 t => ?_)
  cases d <;> try (exact False.elim q)
  cases t.int
  exact un_neg _ _ _ _ _ _ _ I1 rx ⟨_, rfl, (f.ex e1).here S1 (.int _) q⟩
theorem de_ix (hu : X.A.units + 200 < cLine) (ha : DB I X a ma) (hb : DE I X b mb) (hs : PlainIx b := by intro _ _; rfl) : DE I X (.Subscript a b pos) (m2 pIx ma mb) := by
  refine ⟨fun pins s σ H Q Iv ⟨W, ρ, Qd, ok, S, hm, f⟩ => ?_⟩
  exact Subscript_ (twoI ha hb Iv ok S hm fun v u s2 x y H2 d e I2 rx ry q e2 S2 t1 t2 => r_ix hu a b I2 ok S2 rx ry t1 t2 q (f.ex e2) (hs _ _))
def aNil : MA := fun _ Q => Q []
def aCons (a : ME) (r : MA) : MA := fun ρ Q => a ρ fun d => r ρ fun ds => Q (d :: ds)
variable {es : List Expr} {mr : MA}
theorem DAE.run (h : DAE I X es mr) (pos : Pos) (Iv : Inv X pins σ H s) (ok : WOk I W) (S : SR I W X.K σ H ρ) {Qs : List D → Prop} (hm : mr ρ Qs) {Q : List Value → Shared → Prop}
    (k : ∀ us s' vs H' ds, Inv X pins σ H' s' → Vals vs us → Qs ds → Ex W H H' → SR I W X.K σ H' ρ → RepA X.K (avA W I.own σ ρ) (unl W.L H') vs ds → Q us s') : wpAny (model X.prog X.w) X.A (spliced (backTo pos (starEach es X.env))) Q X.xe s :=
  thn (PA.run h pos pins s σ H (fun vs H' => ∃ ds, Qs ds ∧ Ex W H H' ∧ SR I W X.K σ H' ρ ∧ RepA X.K (avA W I.own σ ρ) (unl W.L H') vs ds) Iv ⟨W, ρ, Qs, ok, S, hm, fun v H' d q e1 s1 r => ⟨d, q, e1, s1, r⟩⟩)
    fun u s' ⟨v, H', I', r, d, q, e1, s1, rp⟩ => k u s' v H' d I' r q e1 s1 rp
theorem DAB.run (h : DAB I X es mr) (pos : Pos) (Iv : Inv X pins σ H s) (ok : WOk I W) (S : SR I W X.K σ H ρ) {Qs : List D → Prop} (hm : mr ρ Qs) {Q : List Value → Shared → Prop}
    (k : ∀ us s' vs H' ds, Inv X pins σ H' s' → Vals vs us → Qs ds → Ex W H H' → SR I W X.K σ H' ρ → TopA X.K W.bx (avA W I.own σ ρ) (unl W.L H') vs ds → Q us s') : wpAny (model X.prog X.w) X.A (spliced (backTo pos (starEach es X.env))) Q X.xe s :=
  thn (PA.run h pos pins s σ H (fun vs H' => ∃ ds, Qs ds ∧ Ex W H H' ∧ SR I W X.K σ H' ρ ∧ TopA X.K W.bx (avA W I.own σ ρ) (unl W.L H') vs ds) Iv ⟨W, ρ, Qs, ok, S, hm, fun v H' d q e1 s1 r => ⟨d, q, e1, s1, r⟩⟩)
    fun u s' ⟨v, H', I', r, d, q, e1, s1, rp⟩ => k u s' v H' d I' r q e1 s1 rp
theorem dae_nil : DAE I X [] aNil := pa_imp pa_nil fun σ H Q ⟨W, ρ, Qd, ok, S, hm, f⟩ => f [] H [] hm (Ex.refl W H) S .nil
theorem dab_nil : DAB I X [] aNil := pa_imp pa_nil fun σ H Q ⟨W, ρ, Qd, ok, S, hm, f⟩ => f [] H [] hm (Ex.refl W H) S .nil
theorem dae_cons (ha : DE I X a ma) (hr : DAE I X es mr) (hs : starEach (a :: es) X.env = (false, eval a X.env) :: starEach es X.env := by rfl) : DAE I X (a :: es) (aCons ma mr) := by
  refine ⟨fun pos pins s σ H Q Iv ⟨W, ρ, Qd, ok, S, hm, f⟩ => ?_⟩
  rw [hs]
  show wpAny _ _ (spliced ((false, eval a X.env) :: backTo pos (starEach es X.env))) _ _ s
  refine Calls.spliced_cons (ha.run Iv ok S hm fun u s1 x H1 d I1 rx q e1 S1 t1 => ?_)
  refine hr.run pos I1 ok S1 q fun us s2 xs H2 ds I2 rxs q2 e2 S2 t2 => ?_
  exact ⟨x :: xs, H2, I2, .cons rx rxs, f _ _ _ q2 (e1.trans e2) S2 (.cons (e2.rep ok t1) t2)⟩
theorem dab_cons (ha : DB I X a ma) (hr : DAB I X es mr) (hs : starEach (a :: es) X.env = (false, eval a X.env) :: starEach es X.env := by rfl) : DAB I X (a :: es) (aCons ma mr) := by
  refine ⟨fun pos pins s σ H Q Iv ⟨W, ρ, Qd, ok, S, hm, f⟩ => ?_⟩
  rw [hs]
  show wpAny _ _ (spliced ((false, eval a X.env) :: backTo pos (starEach es X.env))) _ _ s
  refine Calls.spliced_cons (ha.run Iv ok S hm fun u s1 x H1 d I1 rx q e1 S1 t1 => ?_)
  refine hr.run pos I1 ok S1 q fun us s2 xs H2 ds I2 rxs q2 e2 S2 t2 => ?_
  exact ⟨x :: xs, H2, I2, .cons rx rxs, f _ _ _ q2 (e1.trans e2) S2 (.cons (e2.top ok t1) t2)⟩
def mTup (a : MA) : ME := fun ρ Q => a ρ fun ds => ds.length ≤ sizeLine ∧ Q (.tuple ds)
def mLst (a : MA) : ME := fun ρ Q => a ρ fun ds => ds.length ≤ sizeLine ∧ Q (.list ds)
theorem de_tup {x1} (h : DAE I X es mr) : DE I X (.Tuple es x1 pos) (mTup mr) :=
  pe_imp (pe_tupH h) fun σ H Q ⟨W, ρ, Qd, ok, S, hm, f⟩ => ⟨W, ρ, _, ok, S, hm, fun vs H' ds q e1 S1 t => ⟨by rw [t.len]; exact q.1, fun p o hp ho => (f.ex e1).newT ok S1 ho hp (by rw [t.len]; exact q.1) t q.2⟩⟩
theorem de_lst (h : DAE I X es mr) : DE I X (.List es pos) (mLst mr) :=
  pe_imp (pe_lst h) fun σ H Q ⟨W, ρ, Qd, ok, S, hm, f⟩ => ⟨W, ρ, _, ok, S, hm, fun vs H' ds q e1 S1 t => ⟨by rw [t.len]; exact q.1, fun p hp => (f.ex e1).newL ok S1 hp (by rw [t.len]; exact q.1) t q.2⟩⟩
variable {x : Str} {p : Pos} {id T : String} {pp : List D → (D → Prop) → Prop}
theorem de_bi (r : RnD X (.builtin id) pp) (hg : Gl X x) (hm : X.mg x = none) (hv : bootBuiltins x = some (.builtin id)) (ha : DAB I X (e :: es) mr) (hn : x ≠ "__name__" := by decide) (hdb : (x == ("__debug__" : Str)) = false := by decide)
    (he : starEach (e :: es) X.env = (false, eval e X.env) :: starEach es X.env := by rfl) (hpl : (backTo pos (starEach es X.env)).any (·.1) = false := by rfl) : DE I X (.Call (.Name x p) (e :: es) [] pos) (mN pp mr) := by
  refine ⟨fun pins s σ H Q Iv ⟨W, ρ, Qd, ok, S, hq, f⟩ => ?_⟩
  refine wpAny_Call_Name_kw (ld_blt Iv hg hm hv ?_ hn hdb)
  exact PyProof.Rows.callWith_builtin1 (ha.run pos Iv ok S hq fun us s1 vs H1 ds I1 rv q e1 S1 t => r I1 ok S1 rv t q (f.ex e1)) he hpl
theorem de_bty (r : RnD X (.type T) pp) (hg : Gl X x) (hm : X.mg x = none) (hv : bootBuiltins x = some (.type T)) (ha : DAB I X (e :: es) mr) (hn : x ≠ "__name__" := by decide) (hdb : (x == ("__debug__" : Str)) = false := by decide)
    (he : starEach (e :: es) X.env = (false, eval e X.env) :: starEach es X.env := by rfl) (hpl : (backTo pos (starEach es X.env)).any (·.1) = false := by rfl) : DE I X (.Call (.Name x p) (e :: es) [] pos) (mN pp mr) := by
  refine ⟨fun pins s σ H Q Iv ⟨W, ρ, Qd, ok, S, hq, f⟩ => ?_⟩
  refine wpAny_Call_Name_kw (ld_blt Iv hg hm hv ?_ hn hdb)
  exact PyProof.Rows.callWith_type1 (ha.run pos Iv ok S hq fun us s1 vs H1 ds I1 rv q e1 S1 t => r I1 ok S1 rv t q (f.ex e1)) he hpl
def tBool (m : ME) : MT := fun ρ Q => m ρ fun d => match d with
  | .bool b => Q b
  | _ => False
variable {t u : MT} {rest : List Expr}
theorem DT.run (h : DT I X e t) (Iv : Inv X pins σ H s) (ok : WOk I W) (S : SR I W X.K σ H ρ) {Qb : Bool → Prop} (hm : t ρ Qb) {Q : Bool → Shared → Prop}
    (k : ∀ b s' H', Inv X pins σ H' s' → Qb b → Ex W H H' → SR I W X.K σ H' ρ → Q b s') : wpAny (model X.prog X.w) X.A (isTrue e X.env (eval e X.env)) Q X.xe s :=
  thn (PT.run h pins s σ H (fun b H' => Qb b ∧ Ex W H H' ∧ SR I W X.K σ H' ρ) Iv ⟨W, ρ, Qb, ok, S, hm, fun b H' q e1 s1 => ⟨q, e1, s1⟩⟩)
    fun b s' ⟨H', I', q, e1, s1⟩ => k b s' H' I' q e1 s1
/-- an expression whose value is a bool -/
theorem dt_val (h : DB I X e m) (he : ∀ whole, isTrue e X.env whole = (do let v ← whole; standAt e.pos; holding [v] (truthy v)) := by intro _; rfl) : DT I X e (tBool m) :=
  pt_imp (pt_val h he) fun σ H Q ⟨W, ρ, Qb, ok, S, hm, f⟩ => ⟨W, ρ, _, ok, S, hm, fun v H' d q e1 S1 t => by
    cases d <;> try (exact False.elim q)
    cases t.bool
    exact ⟨_, rfl, f _ _ q e1 S1⟩⟩
/-- a comparison -/
theorem dt_cmp {op : CmpOp} {p : D → D → (D → Prop) → Prop} (r : R2D X (compareOp op) p) (ha : DB I X a ma) (hb : DB I X b mb) (h1 : behindInMarks op b = false := by first | exact nobehind _ (by decide) (by decide) | rfl) : DT I X (.Compare a [op] [b] pos) (tBool (m2 p ma mb)) := by
  refine ⟨fun pins s σ H Q Iv ⟨W, ρ, Qb, ok, S, hm, f⟩ => ?_⟩
  refine wpAny_isTrue_Compare1 (twoB ha hb Iv ok S hm fun v u s2 x y H2 d e I2 rx ry q e2 S2 t1 t2 => ?_) h1
  refine thn (r I2 ok S2 rx ry t1 t2 q (Q := fun z H3 => ∃ k, z = V.bl k ∧ Q k H3) fun w H3 d3 q3 e3 S3 t3 => ?_) fun c s3 ⟨z, H3, I3, r3, k, ez, q3⟩ => ?_
  · cases d3 <;> try (exact False.elim q3)
    cases t3
    exact ⟨_, rfl, f _ _ q3 (e2.trans e3) S3⟩
  · subst ez
    cases r3
    exact wpAny_truthy_bool ⟨H3, I3, q3⟩
theorem dt_cmpM {op : CmpOp} {p : D → D → (D → Prop) → Prop} (r : R2M X (compareOp op) p) (ha : DE I X a ma) (hb : DB I X b mb) (h1 : behindInMarks op b = false := by first | exact nobehind _ (by decide) (by decide) | rfl) : DT I X (.Compare a [op] [b] pos) (tBool (m2 p ma mb)) := by
  refine ⟨fun pins s σ H Q Iv ⟨W, ρ, Qb, ok, S, hm, f⟩ => ?_⟩
  refine wpAny_isTrue_Compare1 (twoM ha hb Iv ok S hm fun v u s2 x y H2 d e I2 rx ry q e2 S2 t1 t2 => ?_) h1
  refine thn (r I2 ok S2 rx ry t1 t2 q (Q := fun z H3 => ∃ k, z = V.bl k ∧ Q k H3) fun w H3 d3 q3 e3 S3 t3 => ?_) fun c s3 ⟨z, H3, I3, r3, k, ez, q3⟩ => ?_
  · cases d3 <;> try (exact False.elim q3)
    cases t3
    exact ⟨_, rfl, f _ _ q3 (e2.trans e3) S3⟩
  · subst ez
    cases r3
    exact wpAny_truthy_bool ⟨H3, I3, q3⟩
def tAndM (t u : MT) : MT := fun ρ Q => t ρ fun c => if c = true then u ρ Q else Q false
def tOrM (t u : MT) : MT := fun ρ Q => t ρ fun c => if c = true then Q true else u ρ Q
def tNotM (t : MT) : MT := fun ρ Q => t ρ fun c => Q (!c)
/-- a test whatever its whole is -/
def DW' (I : SI) (X : Cx) (e : Expr) (m : MT) : Prop := PW X e (tT I X.K m)
theorem dw_and1 (ha : DT I X a t) : DW' I X (.BoolOp .And [a] pos) t := pw_and1 ha
theorem dw_or1 (ha : DT I X a t) : DW' I X (.BoolOp .Or [a] pos) t := pw_or1 ha
theorem pw_imp {X : Cx} {e : Expr} {t t' : TT} (h : PW X e t) (k : ∀ σ H Q, t' σ H Q → t σ H Q) : PW X e t' := ⟨fun wh pins s σ H Q I q => h.run wh pins s σ H Q I (k _ _ _ q)⟩
theorem dw_and (ha : DT I X a t) (hb : DW' I X (.BoolOp .And (b :: rest) pos) u) : DW' I X (.BoolOp .And (a :: b :: rest) pos) (tAndM t u) :=
  pw_imp (pw_and ha hb) fun σ H Q ⟨W, ρ, Qb, ok, S, hm, f⟩ => ⟨W, ρ, _, ok, S, hm, fun c H' q e1 S1 => by
    cases c with
    | true => rw [if_pos rfl] at q; rw [if_pos rfl]; exact ⟨W, ρ, Qb, ok, S1, q, f.ex e1⟩
    | false => rw [if_neg Bool.false_ne_true] at q; rw [if_neg Bool.false_ne_true]; exact f _ _ q e1 S1⟩
theorem dw_or (ha : DT I X a t) (hb : DW' I X (.BoolOp .Or (b :: rest) pos) u) : DW' I X (.BoolOp .Or (a :: b :: rest) pos) (tOrM t u) :=
  pw_imp (pw_or ha hb) fun σ H Q ⟨W, ρ, Qb, ok, S, hm, f⟩ => ⟨W, ρ, _, ok, S, hm, fun c H' q e1 S1 => by
    cases c with
    | true => rw [if_pos rfl] at q; rw [if_pos rfl]; exact f _ _ q e1 S1
    | false => rw [if_neg Bool.false_ne_true] at q; rw [if_neg Bool.false_ne_true]; exact ⟨W, ρ, Qb, ok, S1, q, f.ex e1⟩⟩
theorem dt_w (h : DW' I X e t) : DT I X e t := PW.pt h
theorem dt_not (ha : DT I X a t) : DT I X (.UnaryOp .Not a pos) (tNotM t) :=
  pt_imp (pt_not ha) fun σ H Q ⟨W, ρ, Qb, ok, S, hm, f⟩ => ⟨W, ρ, _, ok, S, hm, fun c H' q e1 S1 => f _ _ q e1 S1⟩
def mAndV (a b : ME) : ME := fun ρ Q => a ρ fun d => match d with
  | .bool c => if c = true then b ρ Q else Q (.bool false)
  | _ => False
def mOrV (a b : ME) : ME := fun ρ Q => a ρ fun d => match d with
  | .bool c => if c = true then Q (.bool true) else b ρ Q
  | _ => False
theorem de_one {op} (h : DE I X a ma) : DE I X (.BoolOp op [a] pos) ma := pe_one h
theorem de_and (ha : DE I X a ma) (hb : DE I X (.BoolOp .And (b :: rest) pos) mb) : DE I X (.BoolOp .And (a :: b :: rest) pos) (mAndV ma mb) :=
  pe_imp (pe_and ha hb) fun σ H Q ⟨W, ρ, Qb, ok, S, hm, f⟩ => ⟨W, ρ, _, ok, S, hm, fun v H' d q e1 S1 t => by
    cases d <;> try (exact False.elim q)
    rename_i c
    cases t
    refine ⟨c, rfl, ?_⟩
    cases c with
    | true => rw [if_pos rfl]; exact ⟨W, ρ, Qb, ok, S1, q, f.ex e1⟩
    | false => rw [if_neg Bool.false_ne_true]; exact (f.ex e1).here S1 (.bl _) q⟩
theorem de_or (ha : DE I X a ma) (hb : DE I X (.BoolOp .Or (b :: rest) pos) mb) : DE I X (.BoolOp .Or (a :: b :: rest) pos) (mOrV ma mb) :=
  pe_imp (pe_or ha hb) fun σ H Q ⟨W, ρ, Qb, ok, S, hm, f⟩ => ⟨W, ρ, _, ok, S, hm, fun v H' d q e1 S1 t => by
    cases d <;> try (exact False.elim q)
    rename_i c
    cases t
    refine ⟨c, rfl, ?_⟩
    cases c with
    | true => rw [if_pos rfl]; exact (f.ex e1).here S1 (.bl _) q
    | false => rw [if_neg Bool.false_ne_true]; exact ⟨W, ρ, Qb, ok, S1, q, f.ex e1⟩⟩
def pNotB : D → (D → Prop) → Prop
  | .bool c, Q => Q (.bool (!c))
  | _, _ => False
theorem de_not (ha : DE I X a ma) : DE I X (.UnaryOp .Not a pos) (m1 pNotB ma) :=
  pe_imp (pe_not ha) fun σ H Q ⟨W, ρ, Qb, ok, S, hm, f⟩ => ⟨W, ρ, _, ok, S, hm, fun v H' d q e1 S1 t => by
    cases d <;> try (exact False.elim q)
    cases t
    exact ⟨_, rfl, (f.ex e1).here S1 (.bl _) q⟩⟩
def mIf (t : MT) (a b : ME) : ME := fun ρ Q => t ρ fun c => if c = true then a ρ Q else b ρ Q
theorem de_if {c : Expr} (hc : DT I X c t) (ha : DE I X a ma) (hb : DE I X b mb) : DE I X (.IfExp c a b pos) (mIf t ma mb) :=
  pe_imp (pe_ifExp hc ha hb) fun σ H Q ⟨W, ρ, Qb, ok, S, hm, f⟩ => ⟨W, ρ, _, ok, S, hm, fun c H' q e1 S1 => by
    cases c with
    | true => rw [if_pos rfl] at q; rw [if_pos rfl]; exact ⟨W, ρ, Qb, ok, S1, q, f.ex e1⟩
    | false => rw [if_neg Bool.false_ne_true] at q; rw [if_neg Bool.false_ne_true]; exact ⟨W, ρ, Qb, ok, S1, q, f.ex e1⟩⟩
end
end PyD
namespace PyD
open PySem PySem.Spec L2
open PyProof.Rows hiding St
def tF (I : SI) (K : PySem.W.Frag) (m : ME) : TE := fun σ H Q => ∃ W ρ Qd, WOk I W ∧ SR I W K σ H ρ ∧ m ρ Qd ∧ FinF I W K σ ρ H Qd Q
def DF (I : SI) (X : Cx) (e : Expr) (m : ME) : Prop := PE X e (tF I X.K m)
section
variable {I : SI} {X : Cx} {e a b : Expr} {m ma mb : ME} {mr : MA} {es : List Expr} {pos : Pos}
theorem de (h : DF I X e m) : DE I X e m := pe_imp h fun σ H Q ⟨W, ρ, Qd, ok, S, hm, f⟩ => ⟨W, ρ, Qd, ok, S, hm, f.toF⟩
theorem df_lst (h : DAE I X es mr) : DF I X (.List es pos) (mLst mr) :=
  pe_imp (pe_lst h) fun σ H Q ⟨W, ρ, Qd, ok, S, hm, f⟩ => ⟨W, ρ, _, ok, S, hm, fun vs H' ds q e1 S1 t => ⟨by rw [t.len]; exact q.1, fun p hp => (f.ex ok e1).newL ok S1 hp (by rw [t.len]; exact q.1) t q.2⟩⟩
theorem df_bi {x : Str} {p : Pos} {id : String} {pp : List D → (D → Prop) → Prop} (r : RnF X (.builtin id) pp) (hg : Gl X x) (hm : X.mg x = none) (hv : bootBuiltins x = some (.builtin id)) (ha : DAB I X (e :: es) mr) (hn : x ≠ "__name__" := by decide) (hdb : (x == ("__debug__" : Str)) = false := by decide)
    (he : starEach (e :: es) X.env = (false, eval e X.env) :: starEach es X.env := by rfl) (hpl : (backTo pos (starEach es X.env)).any (·.1) = false := by rfl) : DF I X (.Call (.Name x p) (e :: es) [] pos) (mN pp mr) := by
  refine ⟨fun pins s σ H Q Iv ⟨W, ρ, Qd, ok, S, hq, f⟩ => ?_⟩
  refine wpAny_Call_Name_kw (ld_blt Iv hg hm hv ?_ hn hdb)
  exact PyProof.Rows.callWith_builtin1 (ha.run pos Iv ok S hq fun us s1 vs H1 ds I1 rv q e1 S1 t => r I1 ok S1 rv t q (f.ex ok e1)) he hpl
theorem df_bty {x : Str} {p : Pos} {T : String} {pp : List D → (D → Prop) → Prop} (r : RnF X (.type T) pp) (hg : Gl X x) (hm : X.mg x = none) (hv : bootBuiltins x = some (.type T)) (ha : DAB I X (e :: es) mr) (hn : x ≠ "__name__" := by decide) (hdb : (x == ("__debug__" : Str)) = false := by decide)
    (he : starEach (e :: es) X.env = (false, eval e X.env) :: starEach es X.env := by rfl) (hpl : (backTo pos (starEach es X.env)).any (·.1) = false := by rfl) : DF I X (.Call (.Name x p) (e :: es) [] pos) (mN pp mr) := by
  refine ⟨fun pins s σ H Q Iv ⟨W, ρ, Qd, ok, S, hq, f⟩ => ?_⟩
  refine wpAny_Call_Name_kw (ld_blt Iv hg hm hv ?_ hn hdb)
  exact PyProof.Rows.callWith_type1 (ha.run pos Iv ok S hq fun us s1 vs H1 ds I1 rv q e1 S1 t => r I1 ok S1 rv t q (f.ex ok e1)) he hpl
/-- xs + ys of lists: a new list -/
def pAddL : D → D → (D → Prop) → Prop
  | .list a, .list b, Q => a.length + b.length ≤ sizeLine ∧ Q (.list (a ++ b))
  | _, _, _ => False
theorem df_addL (ha : DB I X a ma) (hb : DB I X b mb) : DF I X (.BinOp a .Add b pos) (m2 pAddL ma mb) := by
  refine ⟨fun pins s σ H Q Iv ⟨W, ρ, Qd, ok, S, hm, f⟩ => ?_⟩
  refine wpAny_BinOp (twoB ha hb Iv ok S hm fun v u s2 x y H2 d e I2 rx ry q e2 S2 tx ty => ?_)
  cases d <;> cases e <;> try (exact False.elim q)
  rename_i ds es
  obtain ⟨a, xs, rfl, ra, za, ha⟩ := tx.list
  obtain ⟨b, ys, rfl, rb, zb, hb⟩ := ty.list
  cases rx; cases ry
  obtain ⟨its, r1, ⟨⟨c1, d1, t1, l1⟩, n1, e1, rfl, _, rfl⟩, _⟩ := I2.list (S2.sqL ra)
  obtain ⟨its2, r2, ⟨⟨c2, d2, t2, l2⟩, n2, e2', rfl, _, rfl⟩, _⟩ := I2.list (S2.sqL rb)
  have hz : (xs ++ ys).length ≤ sizeLine := by rw [List.length_append, ha.len, hb.len]; exact q.1
  have hz2 : its.toArray.size + its2.toArray.size ≤ sizeLine := by
    rw [List.size_toArray, List.size_toArray, ← r1.length, ← r2.length, ← List.length_append]; exact hz
  refine concat_meets ⟨_, e1, rfl⟩ ⟨_, e2', rfl⟩ noFill_list_add seq_list_add PySem.F.slot_list_add PySem.F.entry_list_add (PySem.F.args_list_add_2 _ _)
    (list_addW a b its.toArray its2.toArray n1 n2 d1 d2 l1 l2 hz2) ⟨e1, e2', ?_⟩
  have hf : H2 s2.heap.objs.size = none := I2.hok.fresh (Nat.le_refl _)
  have ea : its.toArray ++ its2.toArray = (its ++ its2).toArray := by simp
  rw [ea]
  exact ⟨.ref s2.heap.objs.size, upd H2 s2.heap.objs.size (.lst (xs ++ ys)), I2.laid (t' := s2.toks) (fun b u e => Heap.get?_push_of_some _ e) (Nat.le_refl _) ⟨hz, _, 0, r1.append r2, Heap.get?_push_size _ rfl⟩, rfl,
    (f.ex ok e2).newL ok S2 hf hz (ha.app hb) q.2⟩
theorem df_dnewK : DF I X (.Dict [] [] pos) (mC (dK [])) := pe_imp pe_dnewK fun σ H Q ⟨W, ρ, Qd, ok, S, hm, f⟩ => fun p hp => f.newK ok S hp .nil hm
theorem df_dnewT : DF I X (.Dict [] [] pos) (mC (dT [])) := pe_imp pe_dnewT fun σ H Q ⟨W, ρ, Qd, ok, S, hm, f⟩ => fun p hp => f.newTd ok S hp .nil hm
end

structure MEnds where
  nx : En → Prop
  rt : D → Prop
  bk : En → Prop := fun _ => False
  ct : En → Prop := fun _ => False
abbrev MS := MEnds → En → Prop
/-- what is not kept back stays; so does what is walked -/
structure Kp (I : SI) (W : DW) (σ : St) (ρ : En) (H : Hp) (σ' : St) (ρ' : En) (H' : Hp) : Prop where
  st : ∀ b o, ¬ avA W I.own σ ρ b → unl W.L H b = some o → ¬ avA W I.own σ' ρ' b ∧ unl W.L H' b = some o
  lk : ∀ i ∈ I.lk, ρ'[i]? = ρ[i]? ∧ σ'[i]? = σ[i]? ∧ ((∃ d, ρ[i]? = some (some d)) → ∀ a, σ[i]? = some (some (.ref a)) → unl W.L H' a = unl W.L H a)
structure RetOk (W : DW) (I : SI) (K : PySem.W.Frag) (H' : Hp) (v : V) (d : D) : Prop where
  rep : Rep K W.av (unl W.L H') v d
  lkd : Lkd W.L H'
  fr : ∀ b o, W.H0 b = some o → ¬ W.bx b → unl W.L H' b = some o
  box : ∀ p, W.box = some p → I.bk (unl W.L H') p.1 p.2
  bxt : ∀ b, W.bx b → ∃ o, unl W.L H' b = some o ∧ ntup o = true
section
variable {I : SI} {W : DW} {K : PySem.W.Frag} {σ σ1 σ2 : St} {ρ ρ1 ρ2 : En} {H H1 H2 : Hp}
theorem Kp.refl : Kp I W σ ρ H σ ρ H := ⟨fun _ _ n h => ⟨n, h⟩, fun _ _ => ⟨rfl, rfl, fun _ _ _ => rfl⟩⟩
theorem Kp.trans (a : Kp I W σ ρ H σ1 ρ1 H1) (b : Kp I W σ1 ρ1 H1 σ2 ρ2 H2) : Kp I W σ ρ H σ2 ρ2 H2 where
  st := fun c o n h => let ⟨n1, h1⟩ := a.st c o n h; b.st c o n1 h1
  lk := fun i hi => by
    obtain ⟨a1, a2, a3⟩ := a.lk i hi
    obtain ⟨b1, b2, b3⟩ := b.lk i hi
    refine ⟨b1.trans a1, b2.trans a2, fun l p hp => ?_⟩
    rw [b3 (by rw [a1]; exact l) p (by rw [a2]; exact hp), a3 l p hp]
theorem Ex.kp (ok : WOk I W) (S : SR I W K σ H ρ) (hl : ∀ i ∈ I.lk, i ∈ I.own) (e : Ex W H H1) : Kp I W σ ρ H σ ρ H1 where
  st := fun b o n h => ⟨n, e b o h fun z => n (.inl (ok.bxav b z))⟩
  lk := fun i hi => ⟨rfl, rfl, fun ⟨d, hd⟩ a ha => by
    obtain ⟨a', h1, ow, _⟩ := S.own i d hd (hl i hi)
    rw [ha] at h1; cases h1
    obtain ⟨u, hu, _⟩ := ow.some
    rw [hu]; exact e a u hu (S.ownbx ok hd (hl i hi) ha)⟩
theorem Kp.cm (k : Kp I W σ ρ H σ1 ρ1 H1) : Cm (avA W I.own σ ρ) (avA W I.own σ1 ρ1) (unl W.L H) (unl W.L H1) :=
  ⟨fun b o n h => (k.st b o n h).1, fun b u _ n r => rd_up r fun o h => (k.st b o n h).2, fun b xs n h => (k.st b _ n h).2⟩
end
/-- what is wanted behind a statement -/
structure EndS (I : SI) (W : DW) (K : PySem.W.Frag) (σ : St) (ρ : En) (H : Hp) (M : MEnds) (D : Ends) : Prop where
  nx : ∀ σ' H' ρ', M.nx ρ' → SR I W K σ' H' ρ' → Kp I W σ ρ H σ' ρ' H' → D.nx σ' H'
  rt : ∀ v H' d, M.rt d → RetOk W I K H' v d → D.rt v H'
  bk : ∀ σ' H' ρ', M.bk ρ' → SR I W K σ' H' ρ' → Kp I W σ ρ H σ' ρ' H' → D.bk σ' H'
  ct : ∀ σ' H' ρ', M.ct ρ' → SR I W K σ' H' ρ' → Kp I W σ ρ H σ' ρ' H' → D.ct σ' H'
def tS (I : SI) (K : PySem.W.Frag) (m : MS) : TS := fun D σ H => ∃ W ρ M, WOk I W ∧ SR I W K σ H ρ ∧ (∀ i ∈ I.lk, i ∈ I.own) ∧ m M ρ ∧ EndS I W K σ ρ H M D
def DS (I : SI) (X : Cx) (st : Stmt) (m : MS) : Prop := PS X st (tS I X.K m)
def DSs (I : SI) (X : Cx) (st : List Stmt) (m : MS) : Prop := PSs X st (tS I X.K m)
theorem ps_imp {X : Cx} {st : Stmt} {t t' : TS} (h : PS X st t) (k : ∀ D σ H, t' D σ H → t D σ H) : PS X st t' := ⟨fun pins s σ H D I q => h.run pins s σ H D I (k _ _ _ q)⟩
theorem pss_imp {X : Cx} {st : List Stmt} {t t' : TS} (h : PSs X st t) (k : ∀ D σ H, t' D σ H → t D σ H) : PSs X st t' := ⟨fun pins s σ H D I q => h.run pins s σ H D I (k _ _ _ q)⟩
section
variable {I : SI} {W : DW} {K : PySem.W.Frag} {σ σ1 : St} {ρ ρ1 : En} {H H1 : Hp} {M : MEnds} {D : Ends}
theorem EndS.kp (E : EndS I W K σ ρ H M D) (k : Kp I W σ ρ H σ1 ρ1 H1) : EndS I W K σ1 ρ1 H1 M D :=
  ⟨fun σ' H' ρ' m s q => E.nx σ' H' ρ' m s (k.trans q), E.rt, fun σ' H' ρ' m s q => E.bk σ' H' ρ' m s (k.trans q), fun σ' H' ρ' m s q => E.ct σ' H' ρ' m s (k.trans q)⟩
theorem EndS.here (E : EndS I W K σ ρ H M D) (S : SR I W K σ H ρ) (q : M.nx ρ) : D.nx σ H := E.nx σ H ρ q S Kp.refl
/-- a value handed back -/
theorem SR.ret (ok : WOk I W) (S : SR I W K σ H ρ) {v : V} {d : PyD.D} (r : Rep K (avA W I.own σ ρ) (unl W.L H) v d) : RetOk W I K H v d where
  rep := r.mono ⟨fun _ _ n _ z => n (.inl z), fun _ _ _ _ h => h, fun _ _ _ h => h⟩
  lkd := S.lkd
  fr := S.fr
  box := S.box
  bxt := fun b hb => S.avt b (ok.bxav b hb)
theorem getSet {α : Type} {l : List (Option α)} {i j : Nat} {x : Option α} {d : α} (h : (l.set i x)[j]? = some (some d)) : (i = j ∧ x = some d) ∨ (i ≠ j ∧ l[j]? = some (some d)) := by
  by_cases e : i = j
  · subst e
    have hl : i < l.length := by
      have := (List.getElem?_eq_some_iff.mp h).1
      simpa using this
    rw [List.getElem?_set_self hl] at h
    exact .inl ⟨rfl, Option.some.inj h⟩
  · rw [List.getElem?_set_ne e] at h
    exact .inr ⟨e, h⟩
/-- a name that owns nothing is stored -/
theorem SR.setV (S : SR I W K σ H ρ) {i : Nat} (hi : i ∉ I.own) (hb : I.bs ≠ some i) {v : V} {d : PyD.D} (r : Rep K (avA W I.own σ ρ) (unl W.L H) v d) : SR I W K (σ.set i (some v)) H (ρ.set i (some d)) ∧ (∀ b, avA W I.own (σ.set i (some v)) (ρ.set i (some d)) b ↔ avA W I.own σ ρ b) := by
  have key : ∀ b, avA W I.own (σ.set i (some v)) (ρ.set i (some d)) b ↔ avA W I.own σ ρ b := fun b => by
    have h1 : ∀ j, j ∈ I.own → i ≠ j := fun j hj z => hi (z ▸ hj)
    constructor
    · rintro (z | ⟨j, hj, ⟨d', hd⟩, hs⟩)
      · exact .inl z
      · rw [List.getElem?_set_ne (h1 j hj)] at hd hs
        exact .inr ⟨j, hj, ⟨d', hd⟩, hs⟩
    · rintro (z | ⟨j, hj, ⟨d', hd⟩, hs⟩)
      · exact .inl z
      · exact .inr ⟨j, hj, ⟨d', by rw [List.getElem?_set_ne (h1 j hj)]; exact hd⟩, by rw [List.getElem?_set_ne (h1 j hj)]; exact hs⟩
  have c : Cm (avA W I.own σ ρ) (avA W I.own (σ.set i (some v)) (ρ.set i (some d))) (unl W.L H) (unl W.L H) := ⟨fun b _ n _ z => n ((key b).mp z), fun _ _ _ _ h => h, fun _ _ _ h => h⟩
  refine ⟨⟨by rw [List.length_set, List.length_set]; exact S.len, S.lkd, fun j d' hd hj => ?_, fun j d' hd hj => ?_, fun j k a hj hk hdj hdk hsj hsk => ?_, S.fr, S.avt, S.box, fun j hj => ?_⟩, key⟩
  · rcases getSet hd with ⟨rfl, e⟩ | ⟨ne, hd⟩
    · cases e
      have hl : i < σ.length := by
        have := (List.getElem?_eq_some_iff.mp hd).1
        rw [← S.len]; simpa using this
      exact ⟨v, by rw [List.getElem?_set_self hl], r.mono c⟩
    · obtain ⟨u, hu, ru⟩ := S.val j d' hd hj
      exact ⟨u, by rw [List.getElem?_set_ne ne]; exact hu, ru.mono c⟩
  · have ne : i ≠ j := fun z => hi (z ▸ hj)
    rw [List.getElem?_set_ne ne] at hd
    obtain ⟨a, h1, ow, h2, h3, h4⟩ := S.own j d' hd hj
    exact ⟨a, by rw [List.getElem?_set_ne ne]; exact h1, ow.mono c rfl, h2, h3, h4⟩
  · have nj : i ≠ j := fun z => hi (z ▸ hj)
    have nk : i ≠ k := fun z => hi (z ▸ hk)
    rw [List.getElem?_set_ne nj] at hdj hsj
    rw [List.getElem?_set_ne nk] at hdk hsk
    exact S.inj j k a hj hk hdj hdk hsj hsk
  · have ne : i ≠ j := fun z => hb (z ▸ hj)
    rw [List.getElem?_set_ne ne]
    exact S.bsl j hj
theorem Kp.setV (S : SR I W K σ H ρ) (hl : ∀ i ∈ I.lk, i ∈ I.own) {i : Nat} (hi : i ∉ I.own) {v : V} {d : PyD.D} (key : ∀ b, avA W I.own (σ.set i (some v)) (ρ.set i (some d)) b ↔ avA W I.own σ ρ b) : Kp I W σ ρ H (σ.set i (some v)) (ρ.set i (some d)) H where
  st := fun b o n h => ⟨fun z => n ((key b).mp z), h⟩
  lk := fun j hj => by
    have ne : i ≠ j := fun z => hi (z ▸ hl j hj)
    rw [List.getElem?_set_ne ne, List.getElem?_set_ne ne]
    exact ⟨rfl, rfl, fun _ _ _ => rfl⟩
/-- a name comes to own a new list or dict -/
theorem SR.setO (ok : WOk I W) {p : Addr} (S : SR I (W.add p) K σ H ρ) {i : Nat} (hi : i ∈ I.own) (hb : I.bs ≠ some i) {d : PyD.D} (ow : Own K (avA (W.add p) I.own σ ρ) (unl W.L H) p d) (nv : ¬ W.av p) (n0 : W.H0 p = none) (nL : W.L.lookup p = none) :
    SR I W K (σ.set i (some (.ref p))) H (ρ.set i (some d)) ∧ (∀ b, avA W I.own (σ.set i (some (.ref p))) (ρ.set i (some d)) b → avA (W.add p) I.own σ ρ b) := by
  have key : ∀ b, avA W I.own (σ.set i (some (.ref p))) (ρ.set i (some d)) b → avA (W.add p) I.own σ ρ b := fun b => by
    rintro (z | ⟨j, hj, ⟨d', hd⟩, hs⟩)
    · exact .inl (.inl z)
    · by_cases e : i = j
      · subst e
        rcases getSet hs with ⟨_, e⟩ | ⟨ne, _⟩
        · cases e; exact .inl (.inr rfl)
        · exact absurd rfl ne
      · rw [List.getElem?_set_ne e] at hd hs
        exact .inr ⟨j, hj, ⟨d', hd⟩, hs⟩
  have c : Cm (avA (W.add p) I.own σ ρ) (avA W I.own (σ.set i (some (.ref p))) (ρ.set i (some d))) (unl W.L H) (unl W.L H) := ⟨fun b _ n _ z => n (key b z), fun _ _ _ _ h => h, fun _ _ _ h => h⟩
  have other : ∀ j d' a, j ∈ I.own → ρ[j]? = some (some d') → σ[j]? = some (some (.ref a)) → a ≠ p := fun j d' a hj hd hs z => by
    obtain ⟨a', h1, _, h2, _⟩ := S.own j d' hd hj
    rw [hs] at h1; cases h1
    exact h2 (.inr z)
  refine ⟨⟨by rw [List.length_set, List.length_set]; exact S.len, S.lkd, fun j d' hd hj => ?_, fun j d' hd hj => ?_, fun j k a hj hk hdj hdk hsj hsk => ?_, S.fr, fun b h => S.avt b (.inl h), S.box, fun j hj => ?_⟩, key⟩
  · have ne : i ≠ j := fun z => hj (z ▸ hi)
    rw [List.getElem?_set_ne ne] at hd ⊢
    obtain ⟨u, hu, ru⟩ := S.val j d' hd hj
    exact ⟨u, hu, ru.mono c⟩
  · rcases getSet hd with ⟨rfl, e⟩ | ⟨ne, hd⟩
    · cases e
      have hl : i < σ.length := by
        have := (List.getElem?_eq_some_iff.mp hd).1
        rw [← S.len]; simpa using this
      exact ⟨p, by rw [List.getElem?_set_self hl], ow.mono c rfl, nv, n0, fun _ => nL⟩
    · obtain ⟨a, h1, ow', h2, h3, h4⟩ := S.own j d' hd hj
      exact ⟨a, by rw [List.getElem?_set_ne ne]; exact h1, ow'.mono c rfl, fun z => h2 (.inl z), h3, h4⟩
  · obtain ⟨dj, hdj⟩ := hdj
    obtain ⟨dk, hdk⟩ := hdk
    rcases getSet hdj with ⟨ej, _⟩ | ⟨nj, hdj⟩
    · rcases getSet hdk with ⟨ek, _⟩ | ⟨nk, hdk⟩
      · exact ej.symm.trans ek
      · subst ej
        rw [List.getElem?_set_ne nk] at hsk
        rcases getSet hsj with ⟨_, e⟩ | ⟨n, _⟩
        · cases e; exact absurd rfl (other k dk _ hk hdk hsk)
        · exact absurd rfl n
    · rcases getSet hdk with ⟨ek, _⟩ | ⟨nk, hdk⟩
      · subst ek
        rw [List.getElem?_set_ne nj] at hsj
        rcases getSet hsk with ⟨_, e⟩ | ⟨n, _⟩
        · cases e; exact absurd rfl (other j dj _ hj hdj hsj)
        · exact absurd rfl n
      · rw [List.getElem?_set_ne nj] at hsj
        rw [List.getElem?_set_ne nk] at hsk
        exact S.inj j k a hj hk ⟨dj, hdj⟩ ⟨dk, hdk⟩ hsj hsk
  · have ne : i ≠ j := fun z => hb (z ▸ hj)
    rw [List.getElem?_set_ne ne]
    exact S.bsl j hj
theorem Kp.setO (ok : WOk I W) {p : Addr} (hl : ∀ i ∈ I.lk, i ∈ I.own) (S0 : SR I W K σ H ρ) (e : Ex W H H1) (hp : unl W.L H p = none) {i : Nat} (hi : i ∉ I.lk) {d : PyD.D} (key : ∀ b, avA W I.own (σ.set i (some (.ref p))) (ρ.set i (some d)) b → avA (W.add p) I.own σ ρ b) : Kp I W σ ρ H (σ.set i (some (.ref p))) (ρ.set i (some d)) H1 where
  st := fun b o n h => by
    refine ⟨fun z => ?_, e b o h fun z => n (.inl (ok.bxav b z))⟩
    rcases key b z with (z | z) | z
    · exact n (.inl z)
    · rw [z, hp] at h; cases h
    · exact n (.inr z)
  lk := fun j hj => by
    have ne : i ≠ j := fun z => hi (z ▸ hj)
    rw [List.getElem?_set_ne ne, List.getElem?_set_ne ne]
    exact ⟨rfl, rfl, ((e.kp ok S0 hl).lk j hj).2.2⟩
end
end PyD
namespace PyD
open PySem PySem.Spec L2
open PyProof.Rows hiding St
section
variable {I : SI} {W : DW} {K : PySem.W.Frag} {σ σ1 : St} {ρ ρ1 : En} {H H1 : Hp} {M : MEnds} {D : Ends}
theorem WOk.add (ok : WOk I W) (p : Addr) (nl : W.L.lookup p = none) : WOk I (W.add p) := ⟨fun b h => .inl (ok.bxav b h), ok.lbx, ok.bkst⟩
theorem freshC (ok : WOk I W) (e : Ex W H H1) {p : Addr} (hp : unl W.L H p = none) : Cm (avA W I.own σ ρ) (avA (W.add p) I.own σ ρ) (unl W.L H) (unl W.L H1) :=
  ⟨fun b u n r z => by
    rcases z with (z | z) | z
    · exact n (.inl z)
    · rw [z, hp] at r; cases r
    · exact n (.inr z), (e.keep ok).rd, (e.keep ok).tp⟩
theorem SR.avs {av' : Addr → Prop} (S : SR I W K σ H ρ) (h : ∀ b, W.av b ↔ av' b) : SR I { W with av := av' } K σ H ρ := by
  have e : W.av = av' := funext fun b => propext (h b)
  subst e; exact S
theorem add_comm (W : DW) (p q : Addr) : (W.add p).add q = (W.add q).add p := by
  unfold DW.add
  have e : (fun b => (W.av b ∨ b = p) ∨ b = q) = fun b => (W.av b ∨ b = q) ∨ b = p := funext fun b => propext ⟨fun h => by rcases h with (h | h) | h <;> simp [h], fun h => by rcases h with (h | h) | h <;> simp [h]⟩
  simp only [e]
end
section
variable {I : SI} {X : Cx} {st : Stmt} {rest : List Stmt} {m mu : MS} {e a b : Expr} {me ma mb : ME} {pos : Pos}
def sNext : MS := fun M ρ => M.nx ρ
def sSeq (m u : MS) : MS := fun M ρ => m { M with nx := fun ρ' => u M ρ' } ρ
theorem dss_nil : DSs I X [] sNext := pss_imp pss_nil fun D σ H ⟨W, ρ, M, ok, S, hl, hm, E⟩ => E.here S hm
theorem dss_one (h : DS I X st m) : DSs I X [st] m := pss_one h
theorem dss_cons (h1 : DS I X st m) (h2 : DSs I X rest mu) : DSs I X (st :: rest) (sSeq m mu) :=
  pss_imp (pss_cons h1 h2) fun D σ H ⟨W, ρ, M, ok, S, hl, hm, E⟩ =>
    ⟨W, ρ, { M with nx := fun ρ' => mu M ρ' }, ok, S, hl, hm, ⟨fun σ' H' ρ' q S' k => ⟨W, ρ', M, ok, S', hl, q, E.kp k⟩, E.rt, E.bk, E.ct⟩⟩
theorem ds_pass : DS I X (.Pass pos) sNext := ps_imp ps_pass fun D σ H ⟨W, ρ, M, ok, S, hl, hm, E⟩ => E.here S hm
def sBreak : MS := fun M ρ => M.bk ρ
def sCont : MS := fun M ρ => M.ct ρ
theorem ds_break : DS I X (.Break pos) sBreak := ps_imp ps_break fun D σ H ⟨W, ρ, M, ok, S, hl, hm, E⟩ => E.bk σ H ρ hm S Kp.refl
theorem ds_continue : DS I X (.Continue pos) sCont := ps_imp ps_continue fun D σ H ⟨W, ρ, M, ok, S, hl, hm, E⟩ => E.ct σ H ρ hm S Kp.refl
def sExpr (m : ME) : MS := fun M ρ => m ρ fun _ => M.nx ρ
theorem ds_expr (he : DE I X e me) (hs : swapsWith e none pos.line X.env = pure false := by rfl) : DS I X (.Expr e pos) (sExpr me) :=
  ps_imp (ps_expr he hs) fun D σ H ⟨W, ρ, M, ok, S, hl, hm, E⟩ => ⟨W, ρ, _, ok, S, hm, fun v H' d q e1 S1 r => E.nx σ H' ρ q S1 (e1.kp ok S hl)⟩
theorem ds_doc {x : Str} {j pos pos'} : DS I X (.Expr (.Constant (.str x) j pos) pos') sNext := ps_imp ps_doc fun D σ H ⟨W, ρ, M, ok, S, hl, hm, E⟩ => E.here S hm
def sRet (m : ME) : MS := fun M ρ => m ρ M.rt
theorem ds_ret (he : DE I X e me) : DS I X (.Return (some e) pos) (sRet me) :=
  ps_imp (ps_ret he) fun D σ H ⟨W, ρ, M, ok, S, hl, hm, E⟩ => ⟨W, ρ, _, ok, S, hm, fun v H' d q e1 S1 r => E.rt v H' d q (S1.ret ok r)⟩
/-- return x, x an own name -/
theorem ds_retO (i : Nat) {x : Str} {pos' : Pos} (ho : i ∈ I.own) (hN : X.N[i]? = some x) (hv : Vis X.env.scope x) (hd : (x == ("__debug__" : Str)) = false := by decide) (hcd : (x == ("__classdict__" : Str)) = false := by decide) : DS I X (.Return (some (.Name x pos')) pos) (sRet (mV i)) :=
  ps_imp (ps_ret (pe_var hN hv hd hcd)) fun D σ H ⟨W, ρ, M, ok, S, hl, hm, E⟩ => by
    obtain ⟨d, hd, hq⟩ := mV_of hm
    obtain ⟨a, hv, ow, n, h0, _⟩ := S.own i d hd ho
    refine ⟨.ref a, hv, E.rt _ H d hq ⟨?_, S.lkd, S.fr, S.box, fun b hb => S.avt b (ok.bxav b hb)⟩⟩
    have c : Cm (avA W I.own σ ρ) W.av (unl W.L H) (unl W.L H) := ⟨fun _ _ n _ z => n (.inl z), fun _ _ _ _ h => h, fun _ _ _ h => h⟩
    exact (ow.mono c rfl).rep n
def sRetN : MS := fun M _ => M.rt .none
theorem ds_retN : DS I X (.Return none pos) sRetN := ps_imp ps_retN fun D σ H ⟨W, ρ, M, ok, S, hl, hm, E⟩ => E.rt .non H .none hm (S.ret ok .non)
def sIf (t : MT) (m u : MS) : MS := fun M ρ => t ρ fun c => if c = true then m M ρ else u M ρ
theorem ds_if {c : Expr} {x y : List Stmt} {t : MT} (hc : DT I X c t) (ha : DSs I X x m) (hb : DSs I X y mu) : DS I X (.If c x y pos) (sIf t m mu) :=
  ps_imp (ps_if hc ha hb) fun D σ H ⟨W, ρ, M, ok, S, hl, hm, E⟩ => ⟨W, ρ, _, ok, S, hm, fun c H' q e1 S1 => by
    cases c with
    | true => rw [if_pos rfl] at q; rw [if_pos rfl]; exact ⟨W, ρ, M, ok, S1, hl, q, E.kp (e1.kp ok S hl)⟩
    | false => rw [if_neg Bool.false_ne_true] at q; rw [if_neg Bool.false_ne_true]; exact ⟨W, ρ, M, ok, S1, hl, q, E.kp (e1.kp ok S hl)⟩⟩
/-- code that is not come to -/
def sNever : MS := fun _ _ => False
theorem ds_never : DS I X st sNever := ps_imp ps_never fun D σ H ⟨W, ρ, M, ok, S, hl, hm, E⟩ => hm.elim
theorem dss_never {sts : List Stmt} : DSs I X sts sNever := pss_imp pss_never fun D σ H ⟨W, ρ, M, ok, S, hl, hm, E⟩ => hm.elim
def sSet (i : Nat) (m : ME) : MS := fun M ρ => m ρ fun d => M.nx (ρ.set i (some d))
theorem ds_set (i : Nat) {x : Str} {pos' : Pos} (ho : i ∉ I.own) (hb : I.bs ≠ some i) (hN : X.N.Nodup) (hi : X.N[i]? = some x) (hx : Loc X.env.scope x) (he : DE I X e me) (hs : swapsWith e (some (.Name x pos')) pos.line X.env = pure false := by rfl)
    (hf : X.fn x = true ∨ X.env.scope.names.lookup x = some .local := by first | exact .inl rfl | exact .inr rfl | assumption) : DS I X (.Assign [.Name x pos'] e pos) (sSet i me) :=
  ps_imp (ps_set hN hi hx he hs hf) fun D σ H ⟨W, ρ, M, ok, S, hl, hm, E⟩ => ⟨W, ρ, _, ok, S, hm, fun v H' d q e1 S1 r => by
    obtain ⟨S2, key⟩ := S1.setV ho hb r
    exact E.nx _ _ _ q S2 ((e1.kp ok S hl).trans (Kp.setV S1 hl ho key))⟩
theorem ds_setO (i : Nat) {x : Str} {pos' : Pos} (ho : i ∈ I.own) (hk : i ∉ I.lk) (hb : I.bs ≠ some i) (hN : X.N.Nodup) (hi : X.N[i]? = some x) (hx : Loc X.env.scope x) (he : DF I X e me) (hs : swapsWith e (some (.Name x pos')) pos.line X.env = pure false := by rfl)
    (hf : X.fn x = true ∨ X.env.scope.names.lookup x = some .local := by first | exact .inl rfl | exact .inr rfl | assumption) : DS I X (.Assign [.Name x pos'] e pos) (sSet i me) :=
  ps_imp (ps_set hN hi hx he hs hf) fun D σ H ⟨W, ρ, M, ok, S, hl, hm, E⟩ => ⟨W, ρ, _, ok, S, hm, fun p H' d q e1 S1 ow nv n0 nl nf => by
    obtain ⟨S2, key⟩ := S1.setO ok ho hb ow nv n0 nl
    exact E.nx _ _ _ q S2 (Kp.setO ok hl S e1 nf hk key)⟩
end
def DW.adds (W : DW) (ps : List Addr) : DW := { W with av := fun b => W.av b ∨ b ∈ ps }
theorem adds_nil (W : DW) : W.adds [] = W := by
  unfold DW.adds
  have e : (fun b => W.av b ∨ b ∈ ([] : List Addr)) = W.av := funext fun b => propext (by simp)
  simp only [e]
theorem adds_cons (W : DW) (p : Addr) (ps : List Addr) : W.adds (p :: ps) = (W.adds ps).add p := by
  unfold DW.adds DW.add
  have e : (fun b => W.av b ∨ b ∈ p :: ps) = fun b => (W.av b ∨ b ∈ ps) ∨ b = p := funext fun b => propext (by rw [List.mem_cons]; exact ⟨fun h => by rcases h with h | h | h <;> simp [h], fun h => by rcases h with (h | h) | h <;> simp [h]⟩)
  simp only [e]
theorem adds_snoc (W : DW) (p : Addr) (ps : List Addr) : W.adds (p :: ps) = (W.add p).adds ps := by
  unfold DW.adds DW.add
  have e : (fun b => W.av b ∨ b ∈ p :: ps) = fun b => (W.av b ∨ b = p) ∨ b ∈ ps := funext fun b => propext (by rw [List.mem_cons]; exact ⟨fun h => by rcases h with h | h | h <;> simp [h], fun h => by rcases h with (h | h) | h <;> simp [h]⟩)
  simp only [e]
inductive ItemsX (K : PySem.W.Frag) (av : Addr → Prop) (H : Hp) : List Bool → List V → List D → List Addr → Prop
  | nil : ItemsX K av H [] [] [] []
  | e {fl : List Bool} {v : V} {d : D} {vs : List V} {ds : List D} {ps : List Addr} : Rep K av H v d → ItemsX K av H fl vs ds ps → ItemsX K av H (false :: fl) (v :: vs) (d :: ds) ps
  | f {fl : List Bool} {p : Addr} {d : D} {vs : List V} {ds : List D} {ps : List Addr} : Own K av H p d → ItemsX K av H fl vs ds ps → ItemsX K av H (true :: fl) (.ref p :: vs) (d :: ds) (p :: ps)
theorem ItemsX.mono {K : PySem.W.Frag} {av av' : Addr → Prop} {H H' : Hp} (c : Cm av av' H H') : ∀ {fl : List Bool} {vs : List V} {ds : List D} {ps : List Addr}, (∀ p ∈ ps, H' p = H p) → ItemsX K av H fl vs ds ps → ItemsX K av' H' fl vs ds ps
  | _, _, _, _, _, .nil => .nil
  | _, _, _, _, k, .e r t => .e (r.mono c) (ItemsX.mono c k t)
  | _, _, _, _, k, .f r t => .f (r.mono c (k _ List.mem_cons_self)) (ItemsX.mono c (fun p hp => k p (List.mem_cons_of_mem _ hp)) t)
theorem ItemsX.len {K : PySem.W.Frag} {av : Addr → Prop} {H : Hp} : ∀ {fl : List Bool} {vs : List V} {ds : List D} {ps : List Addr}, ItemsX K av H fl vs ds ps → vs.length = fl.length
  | _, _, _, _, .nil => rfl
  | _, _, _, _, .e r t => by rw [List.length_cons, List.length_cons, ItemsX.len t]
  | _, _, _, _, .f r t => by rw [List.length_cons, List.length_cons, ItemsX.len t]
/-- what holds of the new ones -/
def NewPs (W : DW) (H : Hp) (ps : List Addr) : Prop := ps.Nodup ∧ ∀ p ∈ ps, ¬ W.av p ∧ W.H0 p = none ∧ W.L.lookup p = none ∧ unl W.L H p = none
def setAll {α : Type} (σ : List (Option α)) : List Nat → List α → List (Option α)
  | i :: is, v :: vs => setAll (σ.set i (some v)) is vs
  | _, _ => σ
/-- where each value goes -/
def SlotsOk (I : SI) : List Nat → List Bool → Prop
  | i :: is, f :: fl => (I.bs ≠ some i ∧ (if f = true then i ∈ I.own ∧ i ∉ I.lk else i ∉ I.own)) ∧ SlotsOk I is fl
  | [], [] => True
  | _, _ => False
section
variable {I : SI} {W : DW} {K : PySem.W.Frag} {M : MEnds} {D : Ends}
theorem WOk.adds (ok : WOk I W) (ps : List Addr) : WOk I (W.adds ps) := ⟨fun b h => .inl (ok.bxav b h), ok.lbx, ok.bkst⟩
theorem storeX (ok : WOk I W) {H0 H : Hp} (hl : ∀ i ∈ I.lk, i ∈ I.own) : ∀ {fl : List Bool} {is : List Nat} {vs : List V} {ds : List PyD.D} {ps : List Addr} {σ : St} {ρ : En}, SlotsOk I is fl → NewPs W H0 ps → SR I (W.adds ps) K σ H ρ → ItemsX K (avA (W.adds ps) I.own σ ρ) (unl W.L H) fl vs ds ps →
    SR I W K (setAll σ is vs) H (setAll ρ is ds) ∧ (∀ b, avA W I.own (setAll σ is vs) (setAll ρ is ds) b → avA (W.adds ps) I.own σ ρ b) ∧ (∀ i ∈ I.lk, (setAll ρ is ds)[i]? = ρ[i]? ∧ (setAll σ is vs)[i]? = σ[i]?)
  | [], [], _, _, _, σ, ρ, _, _, S, .nil => by
    rw [adds_nil] at S ⊢
    exact ⟨S, fun _ h => h, fun _ _ => ⟨rfl, rfl⟩⟩
  | false :: fl, i :: is, _, _, ps, σ, ρ, so, np, S, .e (v := v) (d := d) (vs := vs) (ds := ds) r t => by
    obtain ⟨⟨hb, hi⟩, so⟩ := so
    rw [if_neg Bool.false_ne_true] at hi
    obtain ⟨S2, key⟩ := S.setV hi hb r
    have c : Cm (avA (W.adds ps) I.own σ ρ) (avA (W.adds ps) I.own (σ.set i (some v)) (ρ.set i (some d))) (unl W.L H) (unl W.L H) := ⟨fun b _ n _ z => n ((key b).mp z), fun _ _ _ _ h => h, fun _ _ _ h => h⟩
    obtain ⟨S3, key3, lk3⟩ := storeX ok hl so np S2 (t.mono c fun _ _ => rfl)
    refine ⟨S3, fun b h => (key b).mp (key3 b h), fun j hj => ?_⟩
    obtain ⟨a1, a2⟩ := lk3 j hj
    have ne : i ≠ j := fun z => hi (z ▸ hl j hj)
    rw [List.getElem?_set_ne ne] at a1 a2
    exact ⟨a1, a2⟩
  | true :: fl, i :: is, _, _, p :: ps, σ, ρ, so, np, S, .f (d := d) (vs := vs) (ds := ds) r t => by
    obtain ⟨⟨hb, hi⟩, so⟩ := so
    rw [if_pos rfl] at hi
    obtain ⟨nd, np⟩ := np
    obtain ⟨h1, h2, h3, h4⟩ := np p List.mem_cons_self
    have nin : p ∉ ps := (List.nodup_cons.mp nd).1
    rw [adds_cons] at S r t
    have nv : ¬ (W.adds ps).av p := fun z => z.elim h1 nin
    obtain ⟨S2, key⟩ := S.setO (ok.adds ps) hi.1 hb r nv h2 h3
    have c : Cm (avA ((W.adds ps).add p) I.own σ ρ) (avA (W.adds ps) I.own (σ.set i (some (.ref p))) (ρ.set i (some d))) (unl W.L H) (unl W.L H) := ⟨fun b _ n _ z => n (key b z), fun _ _ _ _ h => h, fun _ _ _ h => h⟩
    obtain ⟨S3, key3, lk3⟩ := storeX ok hl so ⟨(List.nodup_cons.mp nd).2, fun q hq => np q (List.mem_cons_of_mem _ hq)⟩ S2 (t.mono c fun _ _ => rfl)
    refine ⟨S3, fun b h => by rw [adds_cons]; exact key b (key3 b h), fun j hj => ?_⟩
    obtain ⟨a1, a2⟩ := lk3 j hj
    have ne : i ≠ j := fun z => hi.2 (z ▸ hj)
    rw [List.getElem?_set_ne ne] at a1 a2
    exact ⟨a1, a2⟩
  | [], _ :: _, _, _, _, _, _, so, _, _, _ => so.elim
  | _ :: _, [], _, _, _, _, _, so, _, _, _ => by cases ‹Bool› <;> exact so.elim
end
def tAX (I : SI) (K : PySem.W.Frag) (fl : List Bool) (m : MA) : TA := fun σ H Q => ∃ W ρ Qd, WOk I W ∧ SR I W K σ H ρ ∧ m ρ Qd ∧
  ∀ vs H' ds ps, Qd ds → Ex W H H' → NewPs W H ps → SR I (W.adds ps) K σ H' ρ → ItemsX K (avA (W.adds ps) I.own σ ρ) (unl W.L H') fl vs ds ps → Q vs H'
def DAX (I : SI) (X : Cx) (fl : List Bool) (es : List Expr) (m : MA) : Prop := PA X es (tAX I X.K fl m)
section
variable {I : SI} {X : Cx} {e : Expr} {es : List Expr} {me : ME} {mr : MA} {fl : List Bool} {pos : Pos}
theorem dax_nil : DAX I X [] [] aNil := pa_imp pa_nil fun σ H Q ⟨W, ρ, Qd, ok, S, hm, f⟩ => f [] H [] [] hm (Ex.refl W H) ⟨List.nodup_nil, fun _ h => nomatch h⟩ (by rw [adds_nil]; exact S) .nil
theorem dax_e (ha : DE I X e me) (hr : DAX I X fl es mr) (hs : starEach (e :: es) X.env = (false, eval e X.env) :: starEach es X.env := by rfl) : DAX I X (false :: fl) (e :: es) (aCons me mr) := by
  refine ⟨fun pos pins s σ H Q Iv ⟨W, ρ, Qd, ok, S, hm, f⟩ => ?_⟩
  rw [hs]
  show wpAny _ _ (spliced ((false, eval e X.env) :: backTo pos (starEach es X.env))) _ _ s
  refine Calls.spliced_cons (ha.run Iv ok S hm fun u s1 x H1 d I1 rx q e1 S1 t1 => ?_)
  refine thn (hr.run pos pins s1 σ H1 (fun vs H2 => Q (x :: vs) H2) I1 ⟨W, ρ, _, ok, S1, q, fun vs H2 ds ps q2 e2 np S2 it => ?_⟩) fun us s2 ⟨vs, H2, I2, rv, q3⟩ => ⟨x :: vs, H2, I2, .cons rx rv, q3⟩
  have npH : NewPs W H ps := ⟨np.1, fun p hp => by
    obtain ⟨h1, h2, h3, h4⟩ := np.2 p hp
    refine ⟨h1, h2, h3, ?_⟩
    cases h : unl W.L H p with
    | none => rfl
    | some u =>
      have := e1 p u h fun z => h1 (ok.bxav p z)
      rw [h4] at this; cases this⟩
  have c : Cm (avA W I.own σ ρ) (avA (W.adds ps) I.own σ ρ) (unl W.L H1) (unl W.L H2) := ⟨fun b u n r z => by
    rcases z with (z | z) | z
    · exact n (.inl z)
    · rw [(np.2 b z).2.2.2] at r; cases r
    · exact n (.inr z), (e2.keep ok).rd, (e2.keep ok).tp⟩
  exact f _ _ _ ps q2 (e1.trans e2) npH S2 (.e (t1.mono c) it)
theorem dax_f (ha : DF I X e me) (hr : DAX I X fl es mr) (hs : starEach (e :: es) X.env = (false, eval e X.env) :: starEach es X.env := by rfl) : DAX I X (true :: fl) (e :: es) (aCons me mr) := by
  refine ⟨fun pos pins s σ H Q Iv ⟨W, ρ, Qd, ok, S, hm, f⟩ => ?_⟩
  rw [hs]
  show wpAny _ _ (spliced ((false, eval e X.env) :: backTo pos (starEach es X.env))) _ _ s
  refine Calls.spliced_cons (thn (PE.run ha pins s σ H (fun v H1 => ∃ p d, v = V.ref p ∧ mr ρ (fun ds => Qd (d :: ds)) ∧ Ex W H H1 ∧ SR I (W.add p) X.K σ H1 ρ ∧ Own X.K (avA (W.add p) I.own σ ρ) (unl W.L H1) p d ∧ ¬ W.av p ∧ W.H0 p = none ∧ W.L.lookup p = none ∧ unl W.L H p = none) Iv
    ⟨W, ρ, _, ok, S, hm, fun p H1 d q e1 S1 ow nv n0 nl nf => ⟨p, d, rfl, q, e1, S1, ow, nv, n0, nl, nf⟩⟩) fun u s1 ⟨x, H1, I1, rx, p, d, ex, q, e1, S1, ow, nv, n0, nl, nf⟩ => ?_)
  subst ex
  have ok1 : WOk I (W.add p) := ok.add p nl
  refine thn (hr.run pos pins s1 σ H1 (fun vs H2 => Q (.ref p :: vs) H2) I1 ⟨W.add p, ρ, _, ok1, S1, q, fun vs H2 ds ps q2 e2 np S2 it => ?_⟩) fun us s2 ⟨vs, H2, I2, rv, q3⟩ => ⟨.ref p :: vs, H2, I2, .cons rx rv, q3⟩
  obtain ⟨o, ho, _⟩ := ow.some
  have e2' : Ex W H1 H2 := e2
  have hpp : p ∉ ps := fun hp => by
    have := (np.2 p hp).2.2.2
    rw [show (W.add p).L = W.L from rfl, ho] at this; cases this
  have npH : NewPs W H (p :: ps) := ⟨List.nodup_cons.mpr ⟨hpp, np.1⟩, fun r hr => by
    rcases List.mem_cons.mp hr with rfl | hr
    · exact ⟨nv, n0, nl, nf⟩
    · obtain ⟨h1, h2, h3, h4⟩ := np.2 r hr
      have h1' : ¬ W.av r := fun z => h1 (.inl z)
      refine ⟨h1', h2, h3, ?_⟩
      cases h : unl W.L H r with
      | none => rfl
      | some u =>
        have := e1 r u h fun z => h1' (ok.bxav r z)
        rw [show (W.add p).L = W.L from rfl, this] at h4; cases h4⟩
  have c : Cm (avA (W.add p) I.own σ ρ) (avA ((W.add p).adds ps) I.own σ ρ) (unl W.L H1) (unl W.L H2) := ⟨fun b u n r z => by
    rcases z with (z | z) | z
    · exact n (.inl z)
    · rw [show unl W.L H1 b = none from (np.2 b z).2.2.2] at r; cases r
    · exact n (.inr z), (e2.keep ok1).rd, (e2.keep ok1).tp⟩
  refine f _ _ _ (p :: ps) q2 (e1.trans e2') npH (by rw [adds_snoc]; exact S2) ?_
  rw [adds_snoc]
  refine .f (ow.mono c ?_) it
  rw [ho]
  exact e2' p o ho fun z => nv (ok.bxav p z)
end
end PyD
namespace PyD
open PySem PySem.Spec L2
open PyProof.Rows hiding St
abbrev MG := D → En → (En → Prop) → Prop
abbrev MGs := List D → En → (En → Prop) → Prop
/-- a target that stores into the slots ts alone -/
def tG (I : SI) (K : PySem.W.Frag) (ts : List Nat) (g : MG) : TG := fun v σ H Q => ∃ W ρ d Qe, WOk I W ∧ SR I W K σ H ρ ∧ (∀ i ∈ I.lk, i ∈ I.own) ∧ Rep K (avA W I.own σ ρ) (unl W.L H) v d ∧ g d ρ Qe ∧
  ∀ σ' H' ρ', Qe ρ' → SR I W K σ' H' ρ' → Kp I W σ ρ H σ' ρ' H' → (∀ b, avA W I.own σ' ρ' b ↔ avA W I.own σ ρ b) → (∀ j, j ∉ ts → σ'[j]? = σ[j]? ∧ ρ'[j]? = ρ[j]?) → (H' = H ∧ σ'.length = σ.length) → Q σ' H'
def DG (I : SI) (X : Cx) (tg : Expr) (ts : List Nat) (g : MG) : Prop := PG X tg (tG I X.K ts g)
def tGs (I : SI) (K : PySem.W.Frag) (ts : List Nat) (g : MGs) : TGs := fun vs σ H Q => ∃ W ρ ds Qe, WOk I W ∧ SR I W K σ H ρ ∧ (∀ i ∈ I.lk, i ∈ I.own) ∧ RepA K (avA W I.own σ ρ) (unl W.L H) vs ds ∧ g ds ρ Qe ∧
  ∀ σ' H' ρ', Qe ρ' → SR I W K σ' H' ρ' → Kp I W σ ρ H σ' ρ' H' → (∀ b, avA W I.own σ' ρ' b ↔ avA W I.own σ ρ b) → (∀ j, j ∉ ts → σ'[j]? = σ[j]? ∧ ρ'[j]? = ρ[j]?) → (H' = H ∧ σ'.length = σ.length) → Q σ' H'
def DGs (I : SI) (X : Cx) (tg : List Expr) (ts : List Nat) (g : MGs) : Prop := PGs X tg (tGs I X.K ts g)
theorem pg_imp {X : Cx} {e : Expr} {t t' : TG} (h : PG X e t) (k : ∀ v σ H Q, t' v σ H Q → t v σ H Q) : PG X e t' := ⟨fun pins s σ H v u Q I r q => h.run pins s σ H v u Q I r (k _ _ _ _ q)⟩
theorem pgs_imp {X : Cx} {e : List Expr} {t t' : TGs} (h : PGs X e t) (k : ∀ v σ H Q, t' v σ H Q → t v σ H Q) : PGs X e t' := ⟨fun pins s σ H v u Q I r q => h.run pins s σ H v u Q I r (k _ _ _ _ q)⟩
section
variable {I : SI} {X : Cx} {pos : Pos}
def gN (i : Nat) : MG := fun d ρ Q => Q (ρ.set i (some d))
theorem dg_name (i : Nat) {x : Str} (ho : i ∉ I.own) (hb : I.bs ≠ some i) (hN : X.N.Nodup) (hi : X.N[i]? = some x) (hx : Loc X.env.scope x) (hf : X.fn x = true ∨ X.env.scope.names.lookup x = some .local := by first | exact .inl rfl | exact .inr rfl | assumption) : DG I X (.Name x pos) [i] (gN i) :=
  pg_imp (pg_name hN hi hx hf) fun v σ H Q ⟨W, ρ, d, Qe, ok, S, hl, r, hg, k⟩ => by
    obtain ⟨S2, key⟩ := S.setV ho hb r
    refine k _ _ _ hg S2 (Kp.setV S hl ho key) key (fun j hj => ?_) ⟨rfl, List.length_set⟩
    have ne : i ≠ j := fun z => hj (by simp [z])
    exact ⟨List.getElem?_set_ne ne, List.getElem?_set_ne ne⟩
def gsNil : MGs := fun ds ρ Q => match ds with
  | [] => Q ρ
  | _ => False
def gsCons (g : MG) (r : MGs) : MGs := fun ds ρ Q => match ds with
  | d :: ds => g d ρ fun ρ' => r ds ρ' Q
  | _ => False
theorem dgs_nil : DGs I X [] [] gsNil :=
  pgs_imp pgs_nil fun vs σ H Q ⟨W, ρ, ds, Qe, ok, S, hl, r, hg, k⟩ => by
    cases r with
    | nil => exact ⟨rfl, k _ _ _ hg S Kp.refl (fun _ => Iff.rfl) (fun _ _ => ⟨rfl, rfl⟩) ⟨rfl, rfl⟩⟩
    | cons => exact hg.elim
theorem dgs_cons {e : Expr} {es : List Expr} {ts us : List Nat} {g : MG} {gr : MGs} (h1 : DG I X e ts g) (h2 : DGs I X es us gr) (hs : (assignEach (e :: es) X.env).map (·.2) = assign e X.env :: (assignEach es X.env).map (·.2) := by rfl) : DGs I X (e :: es) (ts ++ us) (gsCons g gr) :=
  pgs_imp (pgs_cons h1 h2 hs) fun vs σ H Q ⟨W, ρ, ds, Qe, ok, S, hl, r, hg, k⟩ => by
    cases r with
    | nil => exact hg.elim
    | cons a t =>
      refine ⟨_, _, rfl, W, ρ, _, _, ok, S, hl, a, hg, fun σ1 H1 ρ1 q1 S1 k1 key1 o1 ⟨e1, n1⟩ => ?_⟩
      subst e1
      refine ⟨W, ρ1, _, _, ok, S1, hl, t.mono k1.cm, q1, fun σ2 H2 ρ2 q2 S2 k2 key2 o2 ⟨e2, n2⟩ => ?_⟩
      subst e2
      refine k _ _ _ q2 S2 (k1.trans k2) (fun b => (key2 b).trans (key1 b)) (fun j hj => ?_) ⟨rfl, n2.trans n1⟩
      obtain ⟨a1, a2⟩ := o1 j fun z => hj (List.mem_append_left _ z)
      obtain ⟨b1, b2⟩ := o2 j fun z => hj (List.mem_append_right _ z)
      exact ⟨b1.trans a1, b2.trans a2⟩
def gT (g : MGs) : MG := fun d ρ Q => match d with
  | .tuple ds => g ds ρ Q
  | _ => False
theorem dg_tup {es : List Expr} {k : Nat} {ts : List Nat} {g : MGs} (hc : X.calm = true) (h : DGs I X es ts g) (hlen : ∀ ds ρ Q, g ds ρ Q → ds.length = (assignEach es X.env).length := by intro ds ρ Q h; rcases ds with _ | ⟨a, _ | ⟨b, _ | ⟨c, _ | ⟨d, _ | ⟨e, ds⟩⟩⟩⟩⟩ <;> first | exact False.elim h | rfl)
    (hst : (assignEach es X.env).findIdx? (·.1) = none := by rfl) : DG I X (.Tuple es k pos) ts (gT g) :=
  pg_imp (pg_tup hc h rfl hst) fun v σ H Q ⟨W, ρ, d, Qe, ok, S, hl, r, hg, k⟩ => by
    cases d <;> try (exact False.elim hg)
    rename_i ds
    obtain ⟨a, xs, rfl, ra, za, rr⟩ := (Top.rep (bx := W.bx) r).tuple
    exact ⟨a, xs, rfl, S.sqT ra, by rw [rr.len]; exact hlen ds ρ Qe hg, W, ρ, ds, Qe, ok, S, hl, rr, hg, k⟩
end
section
variable {I : SI} {X : Cx} {e : Expr} {es : List Expr} {me : ME} {mr : MA} {fl : List Bool} {pos : Pos}
def sAsg (m : ME) (g : MG) : MS := fun M ρ => m ρ fun d => g d ρ M.nx
/-- a, b = e -/
theorem ds_asg {tg : Expr} {ts : List Nat} {g : MG} (he : DE I X e me) (hg : DG I X tg ts g) (hs : swapsWithSole [tg] e pos.line X.env = pure false := by rfl) (hw : swappedStores [tg] e X.env = pure none := by rfl)
    (h1 : (assignEach [tg] X.env).map (·.2) = [assign tg X.env] := by rfl) : DS I X (.Assign [tg] e pos) (sAsg me g) :=
  ps_imp (ps_asg he hg hs hw h1) fun D σ H ⟨W, ρ, M, ok, S, hl, hm, E⟩ => ⟨W, ρ, _, ok, S, hm, fun v H' d q e1 S1 r =>
    ⟨W, ρ, d, M.nx, ok, S1, hl, r, q, fun σ' H2 ρ' q2 S2 k2 _ _ _ => E.nx _ _ _ q2 S2 ((e1.kp ok S hl).trans k2)⟩⟩
def sPar (is : List Nat) (m : MA) : MS := fun M ρ => m ρ fun ds => ds.length = is.length ∧ M.nx (setAll ρ is ds)
theorem Kp.storeX {W : DW} {K : PySem.W.Frag} {σ : St} {ρ : En} {H H1 : Hp} {ps : List Addr} {is : List Nat} {vs : List V} {ds : List PyD.D} (ok : WOk I W) (hl : ∀ i ∈ I.lk, i ∈ I.own) (S0 : SR I W K σ H ρ) (e : Ex W H H1) (np : NewPs W H ps)
    (key : ∀ b, avA W I.own (setAll σ is vs) (setAll ρ is ds) b → avA (W.adds ps) I.own σ ρ b) (lk : ∀ i ∈ I.lk, (setAll ρ is ds)[i]? = ρ[i]? ∧ (setAll σ is vs)[i]? = σ[i]?) : Kp I W σ ρ H (setAll σ is vs) (setAll ρ is ds) H1 where
  st := fun b o n h => by
    refine ⟨fun z => ?_, e b o h fun z => n (.inl (ok.bxav b z))⟩
    rcases key b z with (z | z) | z
    · exact n (.inl z)
    · rw [(np.2 b z).2.2.2] at h; cases h
    · exact n (.inr z)
  lk := fun j hj => ⟨(lk j hj).1, (lk j hj).2, ((e.kp ok S0 hl).lk j hj).2.2⟩
/-- a, b = e1, e2 with plain local names -/
theorem ds_par2 (i j : Nat) {x y : Str} {a b : Expr} {px py pt : Pos} {kt k2 pt2} (hso : SlotsOk I [i, j] fl) (hc : X.calm = true) (hN : X.N.Nodup) (hi : X.N[i]? = some x) (hj : X.N[j]? = some y) (hij : i ≠ j)
    (hx : X.env.scope.names.lookup x = some .local) (hy : X.env.scope.names.lookup y = some .local) (ha : DAX I X fl [a, b] mr)
    (hw : swappedStores [.Tuple [.Name x px, .Name y py] kt pt] (.Tuple [a, b] k2 pt2) X.env = pure (some [x, y]))
    (hs : swapsWithSole [.Tuple [.Name x px, .Name y py] kt pt] (.Tuple [a, b] k2 pt2) pos.line X.env = pure false := by rfl) : DS I X (.Assign [.Tuple [.Name x px, .Name y py] kt pt] (.Tuple [a, b] k2 pt2) pos) (sPar [i, j] mr) :=
  ps_imp (ps_par hc hN hi hj hij hx hy ha hw hs) fun D σ H ⟨W, ρ, M, ok, S, hl, hm, E⟩ => ⟨W, ρ, _, ok, S, hm, fun vs H' ds ps q e1 np S1 it => by
    obtain ⟨S2, key, lk⟩ := storeX ok hl hso np S1 it
    have hvl := it.len
    have hfl : fl.length = 2 := by
      rcases fl with _ | ⟨f, _ | ⟨g, _ | ⟨h, fl⟩⟩⟩
      · exact hso.elim
      · exact hso.2.elim
      · rfl
      · exact hso.2.2.elim
    rw [hfl] at hvl
    obtain ⟨v, w, rfl⟩ : ∃ v w, vs = [v, w] := by
      rcases vs with _ | ⟨v, _ | ⟨w, _ | ⟨_, _⟩⟩⟩ <;> first | exact ⟨_, _, rfl⟩ | (simp at hvl)
    exact ⟨v, w, rfl, E.nx _ _ _ q.2 S2 (Kp.storeX ok hl S e1 np key lk)⟩⟩
/-- names stored one by one off a new tuple -/
def gNames : List Nat → TGs
  | [] => gNil
  | i :: is => gCons (gName i) (gNames is)
theorem gNames_all : ∀ (is : List Nat) (vs : List V) (σ : St) (H : Hp) (Q : St → Hp → Prop), vs.length = is.length → Q (setAll σ is vs) H → gNames is vs σ H Q
  | [], [], σ, H, Q, _, h => ⟨rfl, h⟩
  | i :: is, v :: vs, σ, H, Q, hl, h => ⟨v, vs, rfl, gNames_all is vs _ H Q (by simpa using hl) h⟩
  | [], _ :: _, _, _, _, hl, _ => by simp at hl
  | _ :: _, [], _, _, _, hl, _ => by simp at hl
theorem SlotsOk.len {I : SI} : ∀ {is : List Nat} {fl : List Bool}, SlotsOk I is fl → fl.length = is.length
  | [], [], _ => rfl
  | _ :: _, _ :: _, h => by rw [List.length_cons, List.length_cons, SlotsOk.len h.2]
  | [], _ :: _, h => h.elim
  | _ :: _, [], h => h.elim
theorem ItemsX.lenD {K : PySem.W.Frag} {av : Addr → Prop} {H : Hp} : ∀ {fl : List Bool} {vs : List V} {ds : List PyD.D} {ps : List Addr}, ItemsX K av H fl vs ds ps → ds.length = fl.length
  | _, _, _, _, .nil => rfl
  | _, _, _, _, .e r t => by rw [List.length_cons, List.length_cons, ItemsX.lenD t]
  | _, _, _, _, .f r t => by rw [List.length_cons, List.length_cons, ItemsX.lenD t]
/-- .. by way of a tuple (names that are cells, or more than three) -/
theorem ds_parT (is : List Nat) {tgs : List Expr} {k1 k2 : Nat} {p1 p2 : Pos} (hso : SlotsOk I is fl) (hlong : is.length ≤ 100) (hc : X.calm = true) (ha : DAX I X fl es mr) (hg : PGs X tgs (gNames is))
    (hn : (assignEach tgs X.env).length = is.length := by rfl) (hst : (assignEach tgs X.env).findIdx? (·.1) = none := by rfl)
    (hs : swapsWithSole [.Tuple tgs k1 p1] (.Tuple es k2 p2) pos.line X.env = pure false := by rfl) (hw : swappedStores [.Tuple tgs k1 p1] (.Tuple es k2 p2) X.env = pure none := by rfl)
    (h1 : (assignEach [.Tuple tgs k1 p1] X.env).map (·.2) = [assign (.Tuple tgs k1 p1) X.env] := by rfl) : DS I X (.Assign [.Tuple tgs k1 p1] (.Tuple es k2 p2) pos) (sPar is mr) :=
  ps_imp (ps_asg (pe_tup ha) (pg_tup hc hg hn hst) hs hw h1) fun D σ H ⟨W, ρ, M, ok, S, hl, hm, E⟩ => ⟨W, ρ, _, ok, S, hm, fun vs H' ds ps q e1 np S1 it => by
    have hvl : vs.length = is.length := it.len.trans hso.len
    refine ⟨by rw [hvl]; exact Nat.le_trans hlong (by decide), fun p hp => ?_⟩
    have ok1 : WOk I (W.adds ps) := ok.adds ps
    have e2 : Ex (W.adds ps) H' (upd H' p (.tup vs)) := Ex.new S1.lkd hp
    have S2 : SR I (W.adds ps) X.K σ (upd H' p (.tup vs)) ρ := S1.new ok1 hp
    have it2 := it.mono (e2.keep ok1) (fun r hr => by
      rw [unl_upd (L := (W.adds ps).L) (S1.lkd.free hp), upd_ne]
      rintro rfl
      have := S1.fresh hp
      exact this (.inl (.inr hr)))
    obtain ⟨S3, key, lk⟩ := storeX ok hl hso np S2 it2
    exact ⟨p, vs, rfl, .inl (.inl upd_same), hvl, gNames_all is vs σ _ _ hvl (E.nx _ _ _ q.2 S3 (Kp.storeX ok hl S (e1.trans e2) np key lk))⟩⟩
end
section
variable {I : SI} {W : DW} {K : PySem.W.Frag} {σ : St} {ρ : En} {H : Hp}
theorem setSame {σ : St} {i : Nat} {a : V} (h : σ[i]? = some (some a)) : σ.set i (some a) = σ := by
  apply List.ext_getElem?
  intro j
  by_cases e : i = j
  · subst e
    rw [List.getElem?_set_self (List.getElem?_eq_some_iff.mp h).1, h]
  · rw [List.getElem?_set_ne e]
/-- the object of an own name is written -/
theorem SR.wr (ok : WOk I W) (S : SR I W K σ H ρ) (hl : ∀ i ∈ I.lk, i ∈ I.own) {i : Nat} {d d' : D} {a : Addr} {o : HO} (hi : i ∈ I.own) (hk : i ∉ I.lk) (hd : ρ[i]? = some (some d)) (ha : σ[i]? = some (some (.ref a)))
    (new : Cm (avA W I.own σ ρ) (avA W I.own σ ρ) (unl W.L H) (unl W.L (upd H a o)) → Own K (avA W I.own σ ρ) (unl W.L (upd H a o)) a d') :
    SR I W K σ (upd H a o) (ρ.set i (some d')) ∧ Kp I W σ ρ H σ (ρ.set i (some d')) (upd H a o) := by
  obtain ⟨a', h1, ow, nv, n0, nl⟩ := S.own i d hd hi
  rw [ha] at h1; cases h1
  have nl := nl hk
  have hU : unl W.L (upd H a o) = upd (unl W.L H) a o := unl_upd nl
  have hil : i < ρ.length := (List.getElem?_eq_some_iff.mp hd).1
  have key : ∀ b, avA W I.own σ (ρ.set i (some d')) b ↔ avA W I.own σ ρ b := fun b => by
    constructor
    · rintro (z | ⟨j, hj, ⟨e, he⟩, hs⟩)
      · exact .inl z
      · rcases getSet he with ⟨rfl, _⟩ | ⟨_, he⟩
        · exact .inr ⟨_, hj, ⟨d, hd⟩, hs⟩
        · exact .inr ⟨j, hj, ⟨e, he⟩, hs⟩
    · rintro (z | ⟨j, hj, ⟨e, he⟩, hs⟩)
      · exact .inl z
      · by_cases q : i = j
        · subst q; exact .inr ⟨i, hj, ⟨d', List.getElem?_set_self hil⟩, hs⟩
        · exact .inr ⟨j, hj, ⟨e, by rw [List.getElem?_set_ne q]; exact he⟩, hs⟩
  have isAv : avA W I.own σ ρ a := .inr ⟨i, hi, ⟨d, hd⟩, ha⟩
  have ne : ∀ b, ¬ avA W I.own σ ρ b → b ≠ a := fun b n z => n (z ▸ isAv)
  have c : Cm (avA W I.own σ ρ) (avA W I.own σ ρ) (unl W.L H) (unl W.L (upd H a o)) := ⟨fun _ _ n _ => n, fun b u _ n r => by rw [hU]; exact rd_up r fun q hq => by rw [upd_ne (ne b n)]; exact hq, fun b xs n r => by rw [hU, upd_ne (ne b n)]; exact r⟩
  have ck : Cm (avA W I.own σ ρ) (avA W I.own σ (ρ.set i (some d'))) (unl W.L H) (unl W.L (upd H a o)) := ⟨fun b _ n _ z => n ((key b).mp z), c.rd, c.tp⟩
  have ck2 : Cm (avA W I.own σ ρ) (avA W I.own σ (ρ.set i (some d'))) (unl W.L (upd H a o)) (unl W.L (upd H a o)) := ⟨fun b _ n _ z => n ((key b).mp z), fun _ _ _ _ h => h, fun _ _ _ h => h⟩
  refine ⟨⟨by rw [List.length_set]; exact S.len, fun b u e => ?_, fun j e he hj => ?_, fun j e he hj => ?_, fun j k b hj hk' hdj hdk hsj hsk => ?_, fun b u e n => ?_, fun b hb => ?_, fun p hp => ?_, S.bsl⟩, ⟨fun b u n h => ⟨fun z => n ((key b).mp z), ?_⟩, fun j hj => ?_⟩⟩
  · obtain ⟨m, q⟩ := S.lkd b u e
    refine ⟨m, ?_⟩
    rw [upd_ne, q]
    rintro rfl
    rw [nl] at e; cases e
  · have q : i ≠ j := fun z => hj (z ▸ hi)
    rw [List.getElem?_set_ne q] at he
    obtain ⟨v, hv, r⟩ := S.val j e he hj
    exact ⟨v, hv, r.mono ck⟩
  · rcases getSet he with ⟨rfl, q⟩ | ⟨q, he⟩
    · cases q
      exact ⟨a, ha, (new c).mono ck2 rfl, nv, n0, fun _ => nl⟩
    · obtain ⟨b, hb, ow', h2, h3, h4⟩ := S.own j e he hj
      have nba : b ≠ a := fun z => q (S.inj i j a hi hj ⟨d, hd⟩ ⟨e, he⟩ ha (z ▸ hb))
      exact ⟨b, hb, ow'.mono ck (by rw [hU, upd_ne nba]), h2, h3, h4⟩
  · have lv : ∀ m : Nat, (∃ e, (ρ.set i (some d'))[m]? = some (some e)) → ∃ e, ρ[m]? = some (some e) := fun m ⟨e, he⟩ => by
      rcases getSet he with ⟨rfl, _⟩ | ⟨_, he⟩
      · exact ⟨d, hd⟩
      · exact ⟨e, he⟩
    exact S.inj j k b hj hk' (lv j hdj) (lv k hdk) hsj hsk
  · have q : b ≠ a := fun z => by rw [z, n0] at e; cases e
    rw [hU, upd_ne q]; exact S.fr b u e n
  · have q : b ≠ a := fun z => nv (z ▸ hb)
    rw [hU, upd_ne q]; exact S.avt b hb
  · have q : ∀ b, W.bx b → b ≠ a := fun b hb z => nv (z ▸ ok.bxav b hb)
    refine ok.bkst _ _ _ _ ?_ ?_ (S.box p hp)
    · rw [hU, upd_ne (q _ ⟨p, hp, .inl rfl⟩)]
    · rw [hU, upd_ne (q _ ⟨p, hp, .inr rfl⟩)]
  · rw [hU, upd_ne (ne b n)]; exact h
  · have q : i ≠ j := fun z => hk (z ▸ hj)
    rw [List.getElem?_set_ne q]
    refine ⟨rfl, rfl, fun ⟨e, he⟩ b hb => ?_⟩
    rw [hU, upd_ne]
    rintro rfl
    exact q (S.inj i j b hi (hl j hj) ⟨d, hd⟩ ⟨e, he⟩ ha hb)
end
end PyD
namespace PyD
open PySem PySem.Spec L2
open PyProof.Rows hiding St
abbrev MM := En → (En → D → Prop) → Prop
def tM (I : SI) (K : PySem.W.Frag) (m : MM) : TE := fun σ H Q => ∃ W ρ Qd, WOk I W ∧ SR I W K σ H ρ ∧ (∀ i ∈ I.lk, i ∈ I.own) ∧ m ρ Qd ∧
  ∀ v H' ρ' d, Qd ρ' d → SR I W K σ H' ρ' → Kp I W σ ρ H σ ρ' H' → Rep K (avA W I.own σ ρ') (unl W.L H') v d → Q v H'
def DM (I : SI) (X : Cx) (e : Expr) (m : MM) : Prop := PE X e (tM I X.K m)
section
variable {I : SI} {X : Cx} {e : Expr} {m : MM} {pos : Pos}
def sExprM (m : MM) : MS := fun M ρ => m ρ fun ρ' _ => M.nx ρ'
theorem ds_exprM (he : DM I X e m) (hs : swapsWith e none pos.line X.env = pure false := by rfl) : DS I X (.Expr e pos) (sExprM m) :=
  ps_imp (ps_expr he hs) fun D σ H ⟨W, ρ, M, ok, S, hl, hm, E⟩ => ⟨W, ρ, _, ok, S, hl, hm, fun v H' ρ' d q S1 k _ => E.nx σ H' ρ' q S1 k⟩
def sSetM (i : Nat) (m : MM) : MS := fun M ρ => m ρ fun ρ' d => M.nx (ρ'.set i (some d))
theorem ds_setM (i : Nat) {x : Str} {pos' : Pos} (ho : i ∉ I.own) (hb : I.bs ≠ some i) (hN : X.N.Nodup) (hi : X.N[i]? = some x) (hx : Loc X.env.scope x) (he : DM I X e m) (hs : swapsWith e (some (.Name x pos')) pos.line X.env = pure false := by rfl)
    (hf : X.fn x = true ∨ X.env.scope.names.lookup x = some .local := by first | exact .inl rfl | exact .inr rfl | assumption) : DS I X (.Assign [.Name x pos'] e pos) (sSetM i m) :=
  ps_imp (ps_set hN hi hx he hs hf) fun D σ H ⟨W, ρ, M, ok, S, hl, hm, E⟩ => ⟨W, ρ, _, ok, S, hl, hm, fun v H' ρ' d q S1 k r => by
    obtain ⟨S2, key⟩ := S1.setV ho hb r
    exact E.nx _ _ _ q S2 (k.trans (Kp.setV S1 hl ho key))⟩
def sRetM (m : MM) : MS := fun M ρ => m ρ fun _ d => M.rt d
theorem ds_retM (he : DM I X e m) : DS I X (.Return (some e) pos) (sRetM m) :=
  ps_imp (ps_ret he) fun D σ H ⟨W, ρ, M, ok, S, hl, hm, E⟩ => ⟨W, ρ, _, ok, S, hl, hm, fun v H' ρ' d q S1 k r => E.rt v H' d q (S1.ret ok r)⟩
end
def tGw (I : SI) (K : PySem.W.Frag) (g : MG) : TG := fun v σ H Q => ∃ W ρ d Qe, WOk I W ∧ SR I W K σ H ρ ∧ (∀ i ∈ I.lk, i ∈ I.own) ∧ Rep K (avA W I.own σ ρ) (unl W.L H) v d ∧ g d ρ Qe ∧
  ∀ σ' H' ρ', Qe ρ' → SR I W K σ' H' ρ' → Kp I W σ ρ H σ' ρ' H' → Q σ' H'
def DGw (I : SI) (X : Cx) (tg : Expr) (g : MG) : Prop := PG X tg (tGw I X.K g)
def tGsw (I : SI) (K : PySem.W.Frag) (g : MGs) : TGs := fun vs σ H Q => ∃ W ρ ds Qe, WOk I W ∧ SR I W K σ H ρ ∧ (∀ i ∈ I.lk, i ∈ I.own) ∧ RepA K (avA W I.own σ ρ) (unl W.L H) vs ds ∧ g ds ρ Qe ∧
  ∀ σ' H' ρ', Qe ρ' → SR I W K σ' H' ρ' → Kp I W σ ρ H σ' ρ' H' → Q σ' H'
def DGsw (I : SI) (X : Cx) (tg : List Expr) (g : MGs) : Prop := PGs X tg (tGsw I X.K g)
section
variable {I : SI} {X : Cx} {pos : Pos} {e : Expr} {m : MM} {me : ME}
theorem dgw {tg : Expr} {ts : List Nat} {g : MG} (h : DG I X tg ts g) : DGw I X tg g :=
  pg_imp h fun v σ H Q ⟨W, ρ, d, Qe, ok, S, hl, r, hg, k⟩ => ⟨W, ρ, d, Qe, ok, S, hl, r, hg, fun σ' H' ρ' q S' kp _ _ _ => k σ' H' ρ' q S' kp⟩
theorem dgsw_nil : DGsw I X [] gsNil :=
  pgs_imp pgs_nil fun vs σ H Q ⟨W, ρ, ds, Qe, ok, S, hl, r, hg, k⟩ => by
    cases r with
    | nil => exact ⟨rfl, k _ _ _ hg S Kp.refl⟩
    | cons => exact hg.elim
theorem dgsw_cons {e : Expr} {es : List Expr} {g : MG} {gr : MGs} (h1 : DGw I X e g) (h2 : DGsw I X es gr) (hs : (assignEach (e :: es) X.env).map (·.2) = assign e X.env :: (assignEach es X.env).map (·.2) := by rfl) : DGsw I X (e :: es) (gsCons g gr) :=
  pgs_imp (pgs_cons h1 h2 hs) fun vs σ H Q ⟨W, ρ, ds, Qe, ok, S, hl, r, hg, k⟩ => by
    cases r with
    | nil => exact hg.elim
    | cons a t =>
      refine ⟨_, _, rfl, W, ρ, _, _, ok, S, hl, a, hg, fun σ1 H1 ρ1 q1 S1 k1 => ?_⟩
      exact ⟨W, ρ1, _, _, ok, S1, hl, t.mono k1.cm, q1, fun σ2 H2 ρ2 q2 S2 k2 => k _ _ _ q2 S2 (k1.trans k2)⟩
theorem dgw_tup {es : List Expr} {k : Nat} {g : MGs} (hc : X.calm = true) (h : DGsw I X es g) (hlen : ∀ ds ρ Q, g ds ρ Q → ds.length = (assignEach es X.env).length := by intro ds ρ Q h; rcases ds with _ | ⟨a, _ | ⟨b, _ | ⟨c, _ | ⟨d, _ | ⟨e, ds⟩⟩⟩⟩⟩ <;> first | exact False.elim h | rfl)
    (hst : (assignEach es X.env).findIdx? (·.1) = none := by rfl) : DGw I X (.Tuple es k pos) (gT g) :=
  pg_imp (pg_tup hc h rfl hst) fun v σ H Q ⟨W, ρ, d, Qe, ok, S, hl, r, hg, k⟩ => by
    cases d <;> try (exact False.elim hg)
    rename_i ds
    obtain ⟨a, xs, rfl, ra, za, rr⟩ := (Top.rep (bx := W.bx) r).tuple
    exact ⟨a, xs, rfl, S.sqT ra, by rw [rr.len]; exact hlen ds ρ Qe hg, W, ρ, ds, Qe, ok, S, hl, rr, hg, k⟩
theorem ds_asgw {tg : Expr} {g : MG} (he : DE I X e me) (hg : DGw I X tg g) (hs : swapsWithSole [tg] e pos.line X.env = pure false := by rfl) (hw : swappedStores [tg] e X.env = pure none := by rfl)
    (h1 : (assignEach [tg] X.env).map (·.2) = [assign tg X.env] := by rfl) : DS I X (.Assign [tg] e pos) (sAsg me g) :=
  ps_imp (ps_asg he hg hs hw h1) fun D σ H ⟨W, ρ, M, ok, S, hl, hm, E⟩ => ⟨W, ρ, _, ok, S, hm, fun v H' d q e1 S1 r =>
    ⟨W, ρ, d, M.nx, ok, S1, hl, r, q, fun σ' H2 ρ' q2 S2 k2 => E.nx _ _ _ q2 S2 ((e1.kp ok S hl).trans k2)⟩⟩
def sAsgM (m : MM) (g : MG) : MS := fun M ρ => m ρ fun ρ' d => g d ρ' M.nx
theorem ds_asgM {tg : Expr} {g : MG} (he : DM I X e m) (hg : DGw I X tg g) (hs : swapsWithSole [tg] e pos.line X.env = pure false := by rfl) (hw : swappedStores [tg] e X.env = pure none := by rfl)
    (h1 : (assignEach [tg] X.env).map (·.2) = [assign tg X.env] := by rfl) : DS I X (.Assign [tg] e pos) (sAsgM m g) :=
  ps_imp (ps_asg he hg hs hw h1) fun D σ H ⟨W, ρ, M, ok, S, hl, hm, E⟩ => ⟨W, ρ, _, ok, S, hl, hm, fun v H' ρ1 d q S1 k1 r =>
    ⟨W, ρ1, d, M.nx, ok, S1, hl, r, q, fun σ' H2 ρ' q2 S2 k2 => E.nx _ _ _ q2 S2 (k1.trans k2)⟩⟩
end
def StR (K : PySem.W.Frag) (t : TSet) (φ : D → D → D → (D → Prop) → Prop) : Prop :=
  ∀ {I : SI} {W : DW} {σ : St} {H : Hp} {ρ : En} {a : Addr} {d k w : D} {i v : V} {Qd : D → Prop} {Q : Hp → Prop}, SR I W K σ H ρ → W.L.lookup a = none → Own K (avA W I.own σ ρ) (unl W.L H) a d →
    Rep K (avA W I.own σ ρ) (unl W.L H) i k → Rep K (avA W I.own σ ρ) (unl W.L H) v w → φ d k w Qd →
    (∀ o d', Qd d' → (∀ H', Cm (avA W I.own σ ρ) (avA W I.own σ ρ) (unl W.L H) H' → H' a = some o → Own K (avA W I.own σ ρ) H' a d') → Q (upd H a o)) → t (.ref a) i v H Q
def pSetL : D → D → D → (D → Prop) → Prop
  | .list ds, .int i, w, Q => ∃ j, ixN ds.length i = some j ∧ Q (.list (ds.set j w))
  | _, _, _, _ => False
def pSetK : D → D → D → (D → Prop) → Prop
  | .dict ((.none, .none) :: es), k, w, Q => isKeyK k = true ∧ es.length < sizeLine ∧ Q (dK (dput es k w))
  | _, _, _, _ => False
def pSetT : D → D → D → (D → Prop) → Prop
  | .dict ((.none, .bool true) :: es), k, w, Q => isKeyT k = true ∧ es.length < sizeLine ∧ Q (dT (dput es k w))
  | _, _, _, _ => False
theorem Own.listOf {K : PySem.W.Frag} {av : Addr → Prop} {H : Hp} {a : Addr} {ds : List D} (h : Own K av H a (.list ds)) : ∃ xs, H a = Option.some (.lst xs) ∧ xs.length ≤ sizeLine ∧ RepA K av H xs ds := by
  cases h with | lst r z q => exact ⟨_, r, z, q⟩
theorem Own.dictK {K : PySem.W.Frag} {av : Addr → Prop} {H : Hp} {a : Addr} {es : List (D × D)} (h : Own K av H a (dK es)) : ∃ kvs, H a = Option.some (.dK kvs) ∧ RepK K av H kvs es := by
  cases h with | dcK r q => exact ⟨_, r, q⟩
theorem Own.dictT {K : PySem.W.Frag} {av : Addr → Prop} {H : Hp} {a : Addr} {es : List (D × D)} (h : Own K av H a (dT es)) : ∃ kvs, H a = Option.some (.dT kvs) ∧ RepT K av H kvs es := by
  cases h with | dcT r q => exact ⟨_, r, q⟩
theorem st_list {K : PySem.W.Frag} : StR K rSetL pSetL := by
  intro I W σ H ρ a d k w i v Qd Q S nl ow ri rv hp fin
  unfold pSetL at hp
  split at hp
  · obtain ⟨j, hj, hq⟩ := hp
    obtain ⟨xs, hx, z, r⟩ := ow.listOf
    rw [unl_none nl] at hx
    cases ri
    refine ⟨a, xs, _, j, rfl, rfl, hx, ?_, fin _ _ hq fun H' c e => .lst e (by rw [List.length_set]; exact z) (RepA.set (rv.mono c) j (r.mono c))⟩
    rw [r.len]; exact hj
  · exact hp.elim
theorem st_dictK {K : PySem.W.Frag} : StR K rSetD pSetK := by
  intro I W σ H ρ a d k w i v Qd Q S nl ow ri rv hp fin
  unfold pSetK at hp
  split at hp
  · obtain ⟨hk, hz, hq⟩ := hp
    obtain ⟨k', rfl⟩ := isKeyK_of hk
    obtain ⟨kvs, hx, r⟩ := ow.dictK
    rw [unl_none nl] at hx
    rw [ri.key]
    exact ⟨a, _, rfl, DPut.k hx (by rw [r.len]; exact hz), fin _ _ hq fun H' c e => .dcK e (RepK.put (rv.mono c) (r.mono c))⟩
  · exact hp.elim
theorem st_dictT {K : PySem.W.Frag} : StR K rSetD pSetT := by
  intro I W σ H ρ a d k w i v Qd Q S nl ow ri rv hp fin
  unfold pSetT at hp
  split at hp
  · obtain ⟨hk, hz, hq⟩ := hp
    obtain ⟨ks, hn, rfl⟩ := isKeyT_of hk
    obtain ⟨kvs, hx, r⟩ := ow.dictT
    rw [unl_none nl] at hx
    cases ri with
    | tup n rt zt q =>
      rw [q.keys] at rt
      obtain ⟨o, _, rt⟩ := S.lkd.tR rt
      rw [tupH_key hn] at rt
      exact ⟨a, _, rfl, DPut.t hx rt (by rw [r.len]; exact hz), fin _ _ hq fun H' c e => .dcT e (RepT.put hn (rv.mono c) (r.mono c))⟩
  · exact hp.elim
def gSt (i : Nat) (φ : D → D → D → (D → Prop) → Prop) (mi : ME) : MG := fun w ρ Q => match ρ[i]? with
  | some (some d) => mi ρ fun k => φ d k w fun d' => Q (ρ.set i (some d'))
  | _ => False
section
variable {I : SI} {X : Cx} {pos pos2 pos3 apos : Pos} {x : Str} {mi me : ME}
theorem dgw_sub (i : Nat) {ie : Expr} {t : TSet} {φ : D → D → D → (D → Prop) → Prop} (ht : PSet X t) (hr : StR X.K t φ) (ho : i ∈ I.own) (hk : i ∉ I.lk) (hN : X.N[i]? = some x) (hv : Vis X.env.scope x) (he : DE I X ie mi)
    (hd : (x == ("__debug__" : Str)) = false := by decide) (hcd : (x == ("__classdict__" : Str)) = false := by decide)
    (ha : ∀ v, assign (.Subscript (.Name x pos2) ie pos) X.env v = (do
      let ov ← holding [v] (eval (.Name x pos2) X.env)
      let iv ← holding [v, ov] (eval ie X.env)
      standAt pos
      holding [v, ov, iv] (setItem ov iv v)
      release [v, ov, iv] []) := by intro _; rfl) : DGw I X (.Subscript (.Name x pos2) ie pos) (gSt i φ mi) :=
  pg_imp (pg_sub (pe_var hN hv hd hcd) he ht ha) fun v σ H Q ⟨W, ρ, w, Qe, ok, S, hl, rw', hg, kk⟩ => by
    unfold gSt at hg
    split at hg
    · rename_i d hρ
      obtain ⟨a, hs, _, nv, n0, nl⟩ := S.own i d hρ ho
      refine ⟨.ref a, hs, W, ρ, _, ok, S, hg, fun u H1 k hφ e1 S1 t1 => ?_⟩
      obtain ⟨a', hs', ow, _⟩ := S1.own i d hρ ho
      rw [hs] at hs'; cases hs'
      refine hr S1 (nl hk) ow t1 (e1.rep ok rw') hφ fun o d' hq hown => ?_
      obtain ⟨S2, k2⟩ := S1.wr ok hl ho hk hρ hs fun c => hown _ c (by rw [unl_upd (nl hk), upd_same])
      exact kk _ _ _ hq S2 ((e1.kp ok S hl).trans k2)
    · exact hg.elim
end
def MutR (K : PySem.W.Frag) (r : V → List V → Hp → VK → Prop) (φ : D → List D → (D → D → Prop) → Prop) : Prop :=
  ∀ {I : SI} {W : DW} {σ : St} {H : Hp} {ρ : En} {a : Addr} {d : D} {vs : List V} {ds : List D} {Qd : D → D → Prop} {Q : VK}, SR I W K σ H ρ → W.L.lookup a = none → Own K (avA W I.own σ ρ) (unl W.L H) a d →
    RepA K (avA W I.own σ ρ) (unl W.L H) vs ds → φ d ds Qd →
    (∀ v o d' dr, Qd d' dr → (∀ H', Cm (avA W I.own σ ρ) (avA W I.own σ ρ) (unl W.L H) H' → H' a = some o → Own K (avA W I.own σ ρ) H' a d') → Rep K (avA W I.own σ ρ) (unl W.L H) v dr → Q v (upd H a o)) → r (.ref a) vs H Q
def tyD (T : String) : D → Prop
  | .list _ => T = "list"
  | .dict _ => T = "dict"
  | _ => False
def mMeth (i : Nat) (T : String) (φ : D → List D → (D → D → Prop) → Prop) (ma : MA) : MM := fun ρ Q => match ρ[i]? with
  | some (some d) => tyD T d ∧ ma ρ fun ds => φ d ds fun d' dr => Q (ρ.set i (some d')) dr
  | _ => False
theorem tyD_of {I : SI} {W : DW} {K : PySem.W.Frag} {σ : St} {H : Hp} {ρ : En} {T : String} {a : Addr} {d : D} (nl : W.L.lookup a = none) (ow : Own K (avA W I.own σ ρ) (unl W.L H) a d) (h : tyD T d) : tyV K T (.ref a) H := by
  cases ow with
  | lst r z q => rw [unl_none nl] at r; exact .inl ⟨h, _, .inl (.inl r)⟩
  | dcK r q => rw [unl_none nl] at r; exact .inr (.inr (.inl ⟨h, .inl ⟨_, r⟩⟩))
  | dcT r q => rw [unl_none nl] at r; exact .inr (.inr (.inl ⟨h, .inr ⟨_, r⟩⟩))
section
variable {I : SI} {X : Cx} {pos pos2 pos3 apos cpos : Pos} {x name : Str} {T id : String} {r : V → List V → Hp → VK → Prop} {φ : D → List D → (D → D → Prop) → Prop} {e : Expr} {es : List Expr} {ma : MA}
theorem dm_meth (i : Nat) (hr : MutR X.K r φ) (pa : PlainAttrs T) (slot : Slot T name id) (hty : typeOf (.builtin id) = pure (.type "method_descriptor")) (hm : MtR X id r) (ho : i ∈ I.own) (hk : i ∉ I.lk) (hN : X.N[i]? = some x) (hv : Vis X.env.scope x) (ha : DAE I X (e :: es) ma)
    (hd : (x == ("__debug__" : Str)) = false := by decide) (hcd : (x == ("__classdict__" : Str)) = false := by decide)
    (hbase : attributeBase (.Name x pos3) name X.env (eval (.Name x pos3) X.env) = eval (.Name x pos3) X.env := by rfl)
    (hfew : ((backTo cpos (starEach (e :: es) X.env)).all (fun x => !x.1) && (backToKw cpos (keywordEach [] X.env)).all (fun x => x.1.isSome)
      && decide ((e :: es).length + ([] : List Keyword).length + (if ([] : List Keyword).isEmpty then 0 else 1) < 30)) = true := by rfl)
    (hline : (apos.endLine == cpos.line) = true := by rfl) (hs : starEach (e :: es) X.env = (false, eval e X.env) :: starEach es X.env := by rfl) (hplain : (backTo cpos (starEach es X.env)).any (·.1) = false := by rfl) :
    DM I X (.Call (.Attribute (.Name x pos3) name apos) (e :: es) [] cpos) (mMeth i T φ ma) :=
  pe_imp (pe_bm pa slot hty hm (pe_var hN hv hd hcd) ha hbase hfew hline hs hplain) fun σ H Q ⟨W, ρ, Qd, ok, S, hl, hg, kk⟩ => by
    unfold mMeth at hg
    split at hg
    · rename_i d hρ
      obtain ⟨a, hs, ow0, nv, n0, nl⟩ := S.own i d hρ ho
      refine ⟨.ref a, hs, tyD_of (nl hk) ow0 hg.1, W, ρ, _, ok, S, hg.2, fun vs H1 ds hφ e1 S1 t1 => ?_⟩
      obtain ⟨a', hs', ow, _⟩ := S1.own i d hρ ho
      rw [hs] at hs'; cases hs'
      refine hr S1 (nl hk) ow t1 hφ fun v o d' dr hq hown rr => ?_
      obtain ⟨S2, k2⟩ := S1.wr ok hl ho hk hρ hs fun c => hown _ c (by rw [unl_upd (nl hk), upd_same])
      exact kk _ _ _ _ hq S2 ((e1.kp ok S hl).trans k2) (rr.mono k2.cm)
    · exact hg.elim
theorem dm_meth0 (i : Nat) (hr : MutR X.K r φ) (pa : PlainAttrs T) (slot : Slot T name id) (hty : typeOf (.builtin id) = pure (.type "method_descriptor")) (hm : MtR X id r) (ho : i ∈ I.own) (hk : i ∉ I.lk) (hN : X.N[i]? = some x) (hv : Vis X.env.scope x)
    (hd : (x == ("__debug__" : Str)) = false := by decide) (hcd : (x == ("__classdict__" : Str)) = false := by decide)
    (hbase : attributeBase (.Name x pos3) name X.env (eval (.Name x pos3) X.env) = eval (.Name x pos3) X.env := by rfl) (hline : (apos.endLine == cpos.line) = true := by rfl) :
    DM I X (.Call (.Attribute (.Name x pos3) name apos) [] [] cpos) (mMeth i T φ aNil) :=
  pe_imp (pe_bm0 pa slot hty hm (pe_var hN hv hd hcd) hbase hline) fun σ H Q ⟨W, ρ, Qd, ok, S, hl, hg, kk⟩ => by
    unfold mMeth at hg
    split at hg
    · rename_i d hρ
      obtain ⟨a, hs, ow, nv, n0, nl⟩ := S.own i d hρ ho
      refine ⟨.ref a, hs, tyD_of (nl hk) ow hg.1, ?_⟩
      refine hr S (nl hk) ow .nil hg.2 fun v o d' dr hq hown rr => ?_
      obtain ⟨S2, k2⟩ := S.wr ok hl ho hk hρ hs fun c => hown _ c (by rw [unl_upd (nl hk), upd_same])
      exact kk _ _ _ _ hq S2 k2 (rr.mono k2.cm)
    · exact hg.elim
end
def qAppend : D → List D → (D → D → Prop) → Prop
  | .list ds, [d], Q => ds.length < sizeLine ∧ Q (.list (ds ++ [d])) .none
  | _, _, _ => False
def qPop : D → List D → (D → D → Prop) → Prop
  | .list ds, [], Q => ∃ d, ds[ds.length - 1]? = some d ∧ Q (.list ds.dropLast) d
  | _, _, _ => False
def qPopAt : D → List D → (D → D → Prop) → Prop
  | .list ds, [.int i], Q => -(2 ^ 63) ≤ i ∧ i < 2 ^ 63 ∧ ∃ k d, seqIndex? i ds.length = some k ∧ ds[k]? = some d ∧ Q (.list (ds.eraseIdx k)) d
  | _, _, _ => False
theorem RepA.dropLast {K : PySem.W.Frag} {av : Addr → Prop} {H : Hp} : ∀ {vs : List V} {ds : List D}, RepA K av H vs ds → RepA K av H vs.dropLast ds.dropLast := fun {vs ds} r => by
  rw [List.dropLast_eq_take, List.dropLast_eq_take, r.len]; exact r.take _
theorem RepA.eraseIdx {K : PySem.W.Frag} {av : Addr → Prop} {H : Hp} : ∀ {vs : List V} {ds : List D} (k : Nat), RepA K av H vs ds → RepA K av H (vs.eraseIdx k) (ds.eraseIdx k) := fun {vs ds} k r => by
  rw [List.eraseIdx_eq_take_drop_succ, List.eraseIdx_eq_take_drop_succ]; exact (r.take _).app (r.drop _)
theorem mu_append {K : PySem.W.Frag} : MutR K rAppend qAppend := by
  intro I W σ H ρ a d vs ds Qd Q S nl ow ra hp fin
  unfold qAppend at hp
  split at hp
  · obtain ⟨hz, hq⟩ := hp
    obtain ⟨xs, hx, z, r⟩ := ow.listOf
    rw [unl_none nl] at hx
    cases ra with | cons rv t => cases t with | nil =>
    exact ⟨a, xs, _, rfl, rfl, hx, by rw [r.len]; exact hz, fin _ _ _ _ hq (fun H' c e => .lst e (by rw [List.length_append, r.len]; exact hz) ((r.mono c).app (.cons (rv.mono c) .nil))) .non⟩
  · exact hp.elim
theorem mu_pop {K : PySem.W.Frag} : MutR K rPop qPop := by
  intro I W σ H ρ a d vs ds Qd Q S nl ow ra hp fin
  unfold qPop at hp
  split at hp
  · obtain ⟨d, hd, hq⟩ := hp
    obtain ⟨xs, hx, z, r⟩ := ow.listOf
    rw [unl_none nl] at hx
    cases ra
    obtain ⟨v, hv, rv⟩ := r.get hd
    exact ⟨a, xs, v, rfl, rfl, hx, by rw [r.len]; exact hv, fin _ _ _ _ hq (fun H' c e => .lst e (by rw [List.length_dropLast]; omega) (r.mono c).dropLast) rv⟩
  · exact hp.elim
theorem mu_popAt {K : PySem.W.Frag} : MutR K rPopAt qPopAt := by
  intro I W σ H ρ a d vs ds Qd Q S nl ow ra hp fin
  unfold qPopAt at hp
  split at hp
  · obtain ⟨h1, h2, k, d, hk, hd, hq⟩ := hp
    obtain ⟨xs, hx, z, r⟩ := ow.listOf
    rw [unl_none nl] at hx
    cases ra with | cons ri t => cases t with | nil =>
    cases ri
    obtain ⟨v, hv, rv⟩ := r.get hd
    exact ⟨a, xs, _, k, v, rfl, rfl, hx, h1, h2, by rw [r.len]; exact hk, hv, fin _ _ _ _ hq (fun H' c e => .lst e (by have := List.length_eraseIdx_le xs k; omega) ((r.mono c).eraseIdx k)) rv⟩
  · exact hp.elim
end PyD
namespace PyD
open PySem PySem.Spec L2
open PyProof.Rows hiding St
theorem extend_tup (l : Addr) (items : Array Value) (n : Nat) (b : Addr) (items2 : Array Value) (n2 : Nat) (d2 : Option Addr) (sl : Array (Option Value)) (hs0 : ¬(!items.isEmpty && Builtin.List.listTooLong (items.size + items2.size)) = true) (hs1 : items.size ≤ sizeLine) (hs2 : items.size + items2.size ≤ sizeLine + 1) :
    Meets (Builtin.«list.extend» ⟨[.ref l, .ref b], []⟩) (fun _ R s => s.heap.get? l = some { cls := .type "list", dict := none, data := .seq items n, slots := #[] } ∧ s.heap.get? b = some { cls := .type "tuple", dict := d2, data := .seq items2 n2, slots := sl } ∧ R (.ok (.ret Value.none)) { s with heap := s.heap.update l (Obj.mapSeq fun x => x ++ items2), toks := s.toks }) :=
  .of_wp fun prog w A R s h => by
    obtain ⟨hp, g, d, tk, os⟩ := s; obtain ⟨hl, hb, h⟩ := h; have f1 := AutoSeq1.idx_int; have f2 := AutoSeq1.sub_tuple_tuple; have f3 := AutoSeq1.sub_list_list; have f4 := AutoSeq1.sub_tuple_list; have f5 := AutoSeq1.sub_list_tuple;
    have hz' : (items ++ items2).size ≤ sizeLine + 1 := by rw [Array.size_append]; exact hs2
    wp_walk using (wpAny_updateSeq hl rfl (hz := hs1) (_hz' := hz')), AutoSeq1.wpAny_loadPart' hl, AutoSeq1.wpAny_loadPart' hb; exact ⟨_, rfl, h⟩
theorem extend_lst (l : Addr) (items : Array Value) (n : Nat) (b : Addr) (items2 : Array Value) (n2 : Nat) (d2 : Option Addr) (sl : Array (Option Value)) (hs0 : ¬(!items.isEmpty && Builtin.List.listTooLong (items.size + items2.size)) = true) (hs1 : items.size ≤ sizeLine) (hs2 : items.size + items2.size ≤ sizeLine + 1) :
    Meets (Builtin.«list.extend» ⟨[.ref l, .ref b], []⟩) (fun _ R s => s.heap.get? l = some { cls := .type "list", dict := none, data := .seq items n, slots := #[] } ∧ s.heap.get? b = some { cls := .type "list", dict := d2, data := .seq items2 n2, slots := sl } ∧ R (.ok (.ret Value.none)) { s with heap := s.heap.update l (Obj.mapSeq fun x => x ++ items2), toks := s.toks }) :=
  .of_wp fun prog w A R s h => by
    obtain ⟨hp, g, d, tk, os⟩ := s; obtain ⟨hl, hb, h⟩ := h; have f1 := AutoSeq1.idx_int; have f2 := AutoSeq1.sub_tuple_tuple; have f3 := AutoSeq1.sub_list_list; have f4 := AutoSeq1.sub_tuple_list; have f5 := AutoSeq1.sub_list_tuple;
    have hz' : (items ++ items2).size ≤ sizeLine + 1 := by rw [Array.size_append]; exact hs2
    wp_walk using (wpAny_updateSeq hl rfl (hz := hs1) (_hz' := hz')), AutoSeq1.wpAny_loadPart' hl, AutoSeq1.wpAny_loadPart' hb; exact ⟨_, rfl, h⟩
def rExtendD (K : PySem.W.Frag) : V → List V → Hp → VK → Prop := fun x vs H Q => ∃ l b xs zs, x = .ref l ∧ vs = [.ref b] ∧ H l = some (.lst xs) ∧ (Rd H b (.lst zs) ∨ SqT K H b zs) ∧ xs.length + zs.length ≤ sizeLine ∧ Q .non (upd H l (.lst (xs ++ zs)))
theorem mt_extendD {X : Cx} : MtR X "list.extend" (rExtendD X.K) := by
  intro pins s σ H x xs v us Q I rx rv h
  obtain ⟨l, b, xs, zs, rfl, rfl, hH, hB, hz, q⟩ := h
  cases rx
  obtain ⟨u, rfl, ru⟩ := rv.one
  cases ru
  obtain ⟨z, its, n, r, hl, e⟩ := I.lstM hH
  have go : ∀ (its2 : List Value), Vals zs its2 → xs.length + its2.length ≤ sizeLine → (∃ o n2, s.heap.get? b = some o ∧ (o.cls = .type "list" ∨ o.cls = .type "tuple") ∧ o.data = .seq its2.toArray n2) → wpAny (model X.prog X.w) X.A (call (.builtin "list.extend") [.ref l, .ref b]) (EP X pins σ Q) X.xe s := fun its2 r2 hz2 ⟨o, n2, e2, hc, hdt⟩ => by
    have hsz : its.toArray.size + its2.toArray.size ≤ sizeLine := by rw [List.size_toArray, List.size_toArray]; omega
    have hlong : ¬ (!its.toArray.isEmpty && Builtin.List.listTooLong (its.toArray.size + its2.toArray.size)) = true := by
      rw [notLongL hsz, Bool.and_false]
      exact Bool.false_ne_true
    obtain ⟨c, d2, dt, sl⟩ := o
    have hdt : dt = .seq its2.toArray n2 := hdt
    subst hdt
    have fin : EP X pins σ Q Value.none { s with heap := s.heap.update l (Obj.mapSeq fun x => x ++ its2.toArray), toks := s.toks } := by
      refine ⟨.non, _, I.lset (its' := its ++ its2) hH e (by simp) (r.append r2) ?_, rfl, q⟩
      rw [List.length_append]; omega
    rcases hc with hc | hc
    · have hc : c = .type "list" := hc
      subst hc
      exact call_meets F.slot_list_extend ⟨_, e, rfl⟩ F.entry_list_extend (F.args_list_extend_2 _ _)
        (extend_lst l its.toArray n b its2.toArray n2 d2 sl hlong (by rw [List.size_toArray]; omega) (by omega)) ⟨e, e2, fin⟩
    · have hc : c = .type "tuple" := hc
      subst hc
      exact call_meets F.slot_list_extend ⟨_, e, rfl⟩ F.entry_list_extend (F.args_list_extend_2 _ _)
        (extend_tup l its.toArray n b its2.toArray n2 d2 sl hlong (by rw [List.size_toArray]; omega) (by omega)) ⟨e, e2, fin⟩
  rcases hB with hB | hB
  · obtain ⟨its2, r2, ⟨o, n2, e2, hc, hd, hdt⟩, _⟩ := I.list (.inl hB)
    exact go its2 r2 (by rw [← r2.length]; exact hz) ⟨o, n2, e2, .inl hc, by first | exact hdt | exact hdt.1⟩
  · obtain ⟨its2, r2, ⟨o, e2, hc, n2, hdt⟩, _⟩ := I.tuple hB
    exact go its2 r2 (by rw [← r2.length]; exact hz) ⟨o, n2, e2, .inr hc, hdt⟩
def qExtend : D → List D → (D → D → Prop) → Prop
  | .list ds, [.list es], Q => ds.length + es.length ≤ sizeLine ∧ Q (.list (ds ++ es)) .none
  | .list ds, [.tuple es], Q => ds.length + es.length ≤ sizeLine ∧ Q (.list (ds ++ es)) .none
  | _, _, _ => False
theorem mu_extend {K : PySem.W.Frag} : MutR K (rExtendD K) qExtend := by
  intro I W σ H ρ a d vs ds Qd Q S nl ow ra hp fin
  unfold qExtend at hp
  split at hp
  · obtain ⟨hz, hq⟩ := hp
    obtain ⟨xs, hx, z, r⟩ := ow.listOf
    rw [unl_none nl] at hx
    cases ra with | cons rv t => cases t with | nil =>
    cases rv with | lst n rb zb rr =>
    exact ⟨a, _, xs, _, rfl, rfl, hx, .inl (S.lkd.rd rb), by rw [r.len, rr.len]; exact hz, fin _ _ _ _ hq (fun H' c e => .lst e (by rw [List.length_append, r.len, rr.len]; exact hz) ((r.mono c).app (rr.mono c))) .non⟩
  · obtain ⟨hz, hq⟩ := hp
    obtain ⟨xs, hx, z, r⟩ := ow.listOf
    rw [unl_none nl] at hx
    cases ra with | cons rv t => cases t with | nil =>
    cases rv with | tup n rb zb rr =>
    exact ⟨a, _, xs, _, rfl, rfl, hx, .inr (.inl (S.lkd.tR rb).rd), by rw [r.len, rr.len]; exact hz, fin _ _ _ _ hq (fun H' c e => .lst e (by rw [List.length_append, r.len, rr.len]; exact hz) ((r.mono c).app (rr.mono c))) .non⟩
  · exact hp.elim
section
variable {I : SI} {X : Cx} {pos : Pos} {e : Expr} {me : ME} {x : Str}
def sAugI (i : Nat) (f : Int → Int → Int) (m : ME) : MS := fun M ρ => match ρ[i]? with
  | some (some (.int a)) => m ρ fun d => match d with
    | .int b => M.nx (ρ.set i (some (.int (f a b))))
    | _ => False
  | _ => False
theorem ds_augI (i : Nat) {op : Operator} {f : Int → Int → Int} {pos' : Pos} (hop : PIp X op (ipI f)) (ho : i ∉ I.own) (hb : I.bs ≠ some i) (hN : X.N.Nodup) (hi : X.N[i]? = some x) (hx : Loc X.env.scope x) (he : DE I X e me)
    (hf : X.fn x = true ∨ X.env.scope.names.lookup x = some .local := by first | exact .inl rfl | exact .inr rfl | assumption) : DS I X (.AugAssign (.Name x pos') op e pos) (sAugI i f me) :=
  ps_imp (ps_aug hN hi hx he hop hf) fun D σ H ⟨W, ρ, M, ok, S, hl, hm, E⟩ => by
    unfold sAugI at hm
    split at hm
    · rename_i a hρ
      obtain ⟨v, hv, rv⟩ := S.val i _ hρ ho
      cases rv
      refine ⟨_, hv, W, ρ, _, ok, S, hm, fun w H1 d q e1 S1 r1 => ?_⟩
      split at q
      · cases r1
        obtain ⟨S2, key⟩ := S1.setV ho hb (v := .int (f a _)) (d := .int (f a _)) (.int _)
        exact ⟨_, _, rfl, rfl, E.nx _ _ _ q S2 ((e1.kp ok S hl).trans (Kp.setV S1 hl ho key))⟩
      · exact q.elim
    · exact hm.elim
end
end PyD
namespace PyD
open PySem PySem.Spec L2
open PyProof.Rows hiding St
def sWhile (t : MT) (b : MS) : MS := fun M ρ => ∃ inv : Nat → En → Prop, (∃ m, inv m ρ) ∧ ∀ m ρ, inv m ρ → t ρ fun c => if c = true then b { M with nx := fun ρ' => ∃ m', m' < m ∧ inv m' ρ', ct := fun ρ' => ∃ m', m' < m ∧ inv m' ρ', bk := M.nx } ρ else M.nx ρ
section
variable {I : SI} {X : Cx} {pos : Pos}
theorem ds_while {c : Expr} {body : List Stmt} {t : MT} {mb : MS} (hc : DT I X c t) (hb : DSs I X body mb) (hp : PassesOwn (model X.prog X.w) X.A X.env X.xe) : DS I X (.While c body [] pos) (sWhile t mb) :=
  ps_imp (ps_while hp hc hb) fun D σ H ⟨W, ρ, M, ok, S, hl, hm, E⟩ => by
    obtain ⟨inv, ⟨m0, h0⟩, step⟩ := hm
    refine ⟨fun m σ' H' => ∃ ρ', inv m ρ' ∧ SR I W X.K σ' H' ρ' ∧ Kp I W σ ρ H σ' ρ' H', ⟨m0, ρ, h0, S, Kp.refl⟩, ?_⟩
    rintro m σ' H' ⟨ρ', hi, S', k'⟩
    refine ⟨W, ρ', _, ok, S', step m ρ' hi, fun b H1 q e1 S1 => ?_⟩
    cases b with
    | true =>
      rw [if_pos rfl] at q
      rw [if_pos rfl]
      refine ⟨fun σ2 H2 => ∃ m', m' < m ∧ ∃ ρ2, inv m' ρ2 ∧ SR I W X.K σ2 H2 ρ2 ∧ Kp I W σ ρ H σ2 ρ2 H2, fun σ2 H2 ⟨m', hm', w⟩ => ⟨m', hm', w⟩, W, ρ', _, ok, S1, hl, q, ?_⟩
      have k1 := k'.trans (e1.kp ok S' hl)
      exact ⟨fun σ2 H2 ρ2 ⟨m', hm', hi2⟩ S2 k2 => ⟨m', hm', ρ2, hi2, S2, k1.trans k2⟩, E.rt, fun σ2 H2 ρ2 hn S2 k2 => E.nx _ _ _ hn S2 (k1.trans k2), fun σ2 H2 ρ2 ⟨m', hm', hi2⟩ S2 k2 => ⟨m', hm', ρ2, hi2, S2, k1.trans k2⟩⟩
    | false =>
      rw [if_neg Bool.false_ne_true] at q
      rw [if_neg Bool.false_ne_true]
      exact E.nx _ _ _ q S1 (k'.trans (e1.kp ok S' hl))
end
/-- one turn's thing: it stands already, or it is a new tuple -/
def YlD (K : PySem.W.Frag) (av : Addr → Prop) (U H H' : Hp) (x : V) (d : D) : Prop :=
  (H' = H ∧ Rep K av U x d) ∨ ∃ T ys es o, x = .ref T ∧ H T = none ∧ o.dict = none ∧ H' = upd H T (tupH ys o) ∧ ys.length ≤ sizeLine ∧ d = .tuple es ∧ RepA K av U ys es
theorem YlD.sr {I : SI} {W : DW} {K : PySem.W.Frag} {σ : St} {ρ : En} {H H' : Hp} {x : V} {d : D} (ok : WOk I W) (S : SR I W K σ H ρ) (y : YlD K (avA W I.own σ ρ) (unl W.L H) H H' x d) :
    SR I W K σ H' ρ ∧ Ex W H H' ∧ Rep K (avA W I.own σ ρ) (unl W.L H') x d := by
  rcases y with ⟨rfl, r⟩ | ⟨T, ys, es, o, rfl, hT, ho, rfl, hz, rfl, r⟩
  · exact ⟨S, Ex.refl _ _, r⟩
  · exact ⟨S.new ok hT, Ex.new S.lkd hT, .tup (S.fresh hT) ⟨o, ho, by rw [unl_upd (S.lkd.free hT), upd_same]⟩ hz ((Ex.new S.lkd hT).repA ok r)⟩
/-- J walks ds, as long as what it rests on stays -/
def Wk (I : SI) (W : DW) (K : PySem.W.Frag) (σ : St) (ρ : En) (H : Hp) (J : It) (ds : List D) : Prop :=
  ∃ objs : List (Addr × HO), (∀ p ∈ objs, unl W.L H p.1 = some p.2 ∧ (¬ avA W I.own σ ρ p.1 ∨ ∃ i ∈ I.lk, σ[i]? = some (some (.ref p.1)) ∧ ∃ d, ρ[i]? = some (some d))) ∧
    ∀ (H' : Hp) (av' : Addr → Prop), Lkd W.L H' → (∀ p ∈ objs, unl W.L H' p.1 = some p.2) → Cm (avA W I.own σ ρ) av' (unl W.L H) (unl W.L H') → (∀ b xs, unl W.L H' b = some (.tup xs) → ¬ av' b) → ∀ i,
      (∀ d, ds[i]? = some d → J.go i H' ∧ ∀ x H'', J.yld i H' x H'' → YlD K av' (unl W.L H') H' H'' x d) ∧ (ds.length ≤ i → J.stop i H')
theorem Wk.at {I : SI} {W : DW} {K : PySem.W.Frag} {σ σ' : St} {ρ ρ' : En} {H H' : Hp} {J : It} {ds : List D} (w : Wk I W K σ ρ H J ds) (S : SR I W K σ' H' ρ') (k : Kp I W σ ρ H σ' ρ' H') (i : Nat) :
    (∀ d, ds[i]? = some d → J.go i H' ∧ ∀ x H'', J.yld i H' x H'' → YlD K (avA W I.own σ' ρ') (unl W.L H') H' H'' x d) ∧ (ds.length ≤ i → J.stop i H') := by
  obtain ⟨objs, h1, h2⟩ := w
  refine h2 H' _ S.lkd (fun p hp => ?_) k.cm (fun b xs h => S.tupAv h) i
  obtain ⟨e, n | ⟨j, hj, hs, hd⟩⟩ := h1 p hp
  · exact (k.st _ _ n e).2
  · obtain ⟨_, _, z⟩ := k.lk j hj
    rw [z hd _ hs]; exact e
abbrev PR := DW → St → Hp → Prop
def noPr : PR := fun _ _ _ => True
def tI (pr : PR) (I : SI) (K : PySem.W.Frag) (m : MA) : TI := fun σ H R => ∃ W ρ Qd, WOk I W ∧ SR I W K σ H ρ ∧ pr W σ H ∧ m ρ Qd ∧ ∀ J H1 ds, Qd ds → Ex W H H1 → SR I W K σ H1 ρ → Wk I W K σ ρ H1 J ds → R J H1
def DI (pr : PR) (I : SI) (X : Cx) (tg iter : Expr) (m : MA) : Prop := PI X tg iter (tI pr I X.K m)
theorem pi_imp {X : Cx} {tg e : Expr} {t t' : TI} (h : PI X tg e t) (k : ∀ σ H R, t' σ H R → t σ H R) : PI X tg e t' := ⟨fun pins s σ H R I q => h.run pins s σ H R I (k _ _ _ q)⟩
section
variable {I : SI} {W : DW} {K : PySem.W.Frag} {σ : St} {ρ : En} {H : Hp}
/-- a range -/
theorem Wk.rng (lo : Int) (n : Nat) : Wk I W K σ ρ H (Itr lo n) ((List.range n).map fun (i : Nat) => PyData.int (lo + i)) :=
  ⟨[], (fun p hp => nomatch hp), fun H' av' l hp c _ i => ⟨fun d hd => by
    rw [List.getElem?_map, Option.map_eq_some_iff] at hd
    obtain ⟨j, hj, rfl⟩ := hd
    obtain ⟨hlt, e⟩ := List.getElem?_eq_some_iff.mp hj
    rw [List.length_range] at hlt
    rw [List.getElem_range] at e
    subst e
    refine ⟨hlt, fun x H'' y => ?_⟩
    obtain ⟨e1, e2⟩ := (show H'' = H' ∧ x = .int (lo + i) from y)
    exact .inl ⟨e1, by rw [e2]; exact .int _⟩, fun h => by rw [List.length_map, List.length_range] at h; exact h⟩⟩
theorem Wk.rngC (lo c : Int) (n : Nat) : Wk I W K σ ρ H (Itc lo c n) ((List.range n).map fun (i : Nat) => PyData.int (lo + i * c)) :=
  ⟨[], (fun p hp => nomatch hp), fun H' av' l hp _ _ i => ⟨fun d hd => by
    rw [List.getElem?_map, Option.map_eq_some_iff] at hd
    obtain ⟨j, hj, rfl⟩ := hd
    obtain ⟨hlt, e⟩ := List.getElem?_eq_some_iff.mp hj
    rw [List.length_range] at hlt
    rw [List.getElem_range] at e
    subst e
    refine ⟨hlt, fun x H'' y => ?_⟩
    obtain ⟨e1, e2⟩ := (show H'' = H' ∧ x = .int (lo + (i : Nat) * c) from y)
    exact .inl ⟨e1, by rw [e2]; exact .int _⟩, fun h => by rw [List.length_map, List.length_range] at h; exact h⟩⟩
/-- a list object -/
theorem SqL.of_lst {L : List (Addr × Obj × HO)} {H' : Hp} (l : Lkd L H') {a : Addr} {o : HO} {xs : List V} (h : unl L H' a = some o) (e : o = .lst xs ∨ ∃ ob, o = .frz ob (.lst xs)) : SqL K H' a xs := by
  rcases e with rfl | ⟨ob, rfl⟩
  · exact .inl (l.rd (.inl h))
  · exact .inl (l.rd (.inr ⟨ob, h⟩))
end
/-- what the walk of a list rests on -/
theorem rd_obj {U : Hp} {a : Addr} {u : HO} (h : Rd U a u) : ∃ o, U a = some o ∧ (o = u ∨ ∃ ob, o = .frz ob u) := by
  rcases h with h | ⟨o, h⟩
  · exact ⟨_, h, .inl rfl⟩
  · exact ⟨_, h, .inr ⟨o, rfl⟩⟩
/-- a list or tuple that may be walked: (is it a list?) its address, what the walk rests on -/
inductive SeqW (I : SI) (W : DW) (K : PySem.W.Frag) (σ : St) (ρ : En) (H : Hp) : Bool → Addr → List V → List (Addr × HO) → Prop
  | lst {a : Addr} {o : HO} {xs : List V} : unl W.L H a = some o → (o = .lst xs ∨ ∃ ob, o = .frz ob (.lst xs)) → (¬ avA W I.own σ ρ a ∨ ∃ i ∈ I.lk, σ[i]? = some (some (.ref a)) ∧ ∃ d, ρ[i]? = some (some d)) → SeqW I W K σ ρ H true a xs [(a, o)]
  | tup {a : Addr} {xs : List V} {o : Obj} : unl W.L H a = some (tupH xs o) → ¬ avA W I.own σ ρ a → SeqW I W K σ ρ H false a xs [(a, tupH xs o)]
  | wrt {a : Addr} {xs : List V} : WrT K a xs → SeqW I W K σ ρ H false a xs []
section
variable {I : SI} {W : DW} {K : PySem.W.Frag} {σ : St} {ρ : En} {H : Hp}
theorem SeqW.keeps {b : Bool} {a : Addr} {xs : List V} {objs : List (Addr × HO)} (w : SeqW I W K σ ρ H b a xs objs) : ∀ p ∈ objs, unl W.L H p.1 = some p.2 ∧ (¬ avA W I.own σ ρ p.1 ∨ ∃ i ∈ I.lk, σ[i]? = some (some (.ref p.1)) ∧ ∃ d, ρ[i]? = some (some d)) := by
  cases w with
  | lst h e n => intro p hp; rw [List.mem_singleton] at hp; subst hp; exact ⟨h, n⟩
  | tup h n => intro p hp; rw [List.mem_singleton] at hp; subst hp; exact ⟨h, .inl n⟩
  | wrt h => intro p hp; exact nomatch hp
theorem SeqW.sqL {a : Addr} {xs : List V} {objs : List (Addr × HO)} (w : SeqW I W K σ ρ H true a xs objs) {H' : Hp} (l : Lkd W.L H') (h : ∀ p ∈ objs, unl W.L H' p.1 = some p.2) : SqL K H' a xs := by
  cases w with
  | lst h0 e n => exact SqL.of_lst l (h _ (List.mem_singleton.mpr rfl)) e
theorem SeqW.sqT {a : Addr} {xs : List V} {objs : List (Addr × HO)} (w : SeqW I W K σ ρ H false a xs objs) {H' : Hp} (l : Lkd W.L H') (h : ∀ p ∈ objs, unl W.L H' p.1 = some p.2) : SqT K H' a xs := by
  cases w with
  | tup h0 n => exact .inl (tupH_rd (l.tpH (h _ (List.mem_singleton.mpr rfl))))
  | wrt h0 => exact .inr h0
end
/-- v may be walked, if it is a list or a tuple -/
def SqD (I : SI) (W : DW) (K : PySem.W.Frag) (σ : St) (ρ : En) (H : Hp) (v : V) : D → Prop
  | .list ds => ∃ a xs objs, v = .ref a ∧ SeqW I W K σ ρ H true a xs objs ∧ xs.length ≤ sizeLine ∧ RepA K (avA W I.own σ ρ) (unl W.L H) xs ds
  | .tuple ds => ∃ a xs objs, v = .ref a ∧ SeqW I W K σ ρ H false a xs objs ∧ xs.length ≤ sizeLine ∧ RepA K (avA W I.own σ ρ) (unl W.L H) xs ds
  | .str x => v = .str x
  | _ => True
theorem Rep.sqd {I : SI} {W : DW} {K : PySem.W.Frag} {σ : St} {ρ : En} {H : Hp} {v : V} {d : D} (r : Rep K (avA W I.own σ ρ) (unl W.L H) v d) : SqD I W K σ ρ H v d := by
  cases r with
  | lst n rd z q =>
    obtain ⟨o, ho, e⟩ := rd_obj rd
    exact ⟨_, _, _, rfl, .lst ho e (.inl n), z, q⟩
  | tup n rd z q => obtain ⟨o, _, rd⟩ := rd; exact ⟨_, _, _, rfl, .tup rd n, z, q⟩
  | str x => rfl
  | _ => trivial
def tQ (I : SI) (K : PySem.W.Frag) (m : ME) : TE := fun σ H Q => ∃ W ρ Qd, WOk I W ∧ SR I W K σ H ρ ∧ m ρ Qd ∧ ∀ v H' d, Qd d → Ex W H H' → SR I W K σ H' ρ → SqD I W K σ ρ H' v d → Q v H'
def DQ (I : SI) (X : Cx) (e : Expr) (m : ME) : Prop := PE X e (tQ I X.K m)
section
variable {I : SI} {X : Cx} {e : Expr} {m : ME} {pos : Pos} {x : Str}
theorem dq (h : DE I X e m) : DQ I X e m := pe_imp h fun σ H Q ⟨W, ρ, Qd, ok, S, hm, f⟩ => ⟨W, ρ, Qd, ok, S, hm, fun v H' d q e1 S1 r => f v H' d q e1 S1 r.sqd⟩
theorem dq_own (i : Nat) (ho : i ∈ I.own) (hk : i ∈ I.lk) (hN : X.N[i]? = some x) (hv : Vis X.env.scope x) (hd : (x == ("__debug__" : Str)) = false := by decide) (hcd : (x == ("__classdict__" : Str)) = false := by decide) : DQ I X (.Name x pos) (mV i) :=
  pe_imp (pe_var hN hv hd hcd) fun σ H Q ⟨W, ρ, Qd, ok, S, hm, f⟩ => by
    obtain ⟨d, hd, hq⟩ := mV_of hm
    obtain ⟨a, ha, ow, _⟩ := S.own i d hd ho
    refine ⟨.ref a, ha, f _ _ d hq (Ex.refl W H) S ?_⟩
    cases ow with
    | lst r z q => exact ⟨a, _, _, rfl, .lst r (.inl rfl) (.inr ⟨i, hk, ha, _, hd⟩), z, q⟩
    | dcK r q => trivial
    | dcT r q => trivial
end
/-- a list or a tuple walked -/
def iSeq (K : PySem.W.Frag) (tl : TE) : TI := fun σ H R => tl σ H fun x H1 => (∃ z, x = .str z ∧ R (Its z) H1) ∨ ∃ a, x = .ref a ∧ (((∃ xs, SqL K H1 a xs) ∧ R (Itl K a) H1) ∨ ((∃ xs, SqT K H1 a xs) ∧ R (Itt K a) H1))
theorem pi_seq {X : Cx} {tg l : Expr} {tl : TE} (hl : PE X l tl) : PI X tg l (iSeq X.K tl) := by
  refine ⟨fun pins s σ H R I h => ?_⟩
  refine thn (hl.run pins s σ H _ I h) fun v s1 ⟨x, H1, I1, r1, q1⟩ => ?_
  rcases q1 with ⟨z, e, q⟩ | q1
  · subst e
    obtain ⟨t, rfl⟩ := r1
    cases ha : z.cps.all (· < 128)
    · exact wpAny_pyIter_wide ha (pi_one (tk := s1.toks) I1 _ (turn_str _ z t "str_iterator" (.inr rfl)) ⟨_, Heap.get?_push_size _ rfl, rfl, rfl⟩ q)
    · exact wpAny_pyIter_ascii ha (pi_one (tk := s1.toks) I1 _ (turn_str _ z t "str_ascii_iterator" (.inl rfl)) ⟨_, Heap.get?_push_size _ rfl, rfl, rfl⟩ q)
  obtain ⟨a, e, q1⟩ := q1
  subst e
  cases r1
  have fp : ∀ b ∈ [s1.heap.objs.size], FpOk X pins H1 b := fun b hb => by
    have e : b = s1.heap.objs.size := by simpa using hb
    subst e
    exact I1.fpOk (Nat.le_refl _) (I1.hok.fresh (Nat.le_refl _))
  rcases q1 with ⟨⟨xs, hq⟩, q⟩ | ⟨⟨xs, hq⟩, q⟩
  · obtain ⟨its, rv, p, hz⟩ := I1.list hq
    refine wpAny_pyIter_list p.isList ?_
    exact ⟨s1.heap.objs.size, [s1.heap.objs.size], _, _, H1, rfl, I1.kept (t' := s1.toks) fun b o e => Heap.get?_push_of_some _ e, turn_list a _, ⟨_, Heap.get?_push_size _ rfl, rfl, rfl⟩, fp, q⟩
  · obtain ⟨its, rv, p, hz⟩ := I1.tuple hq
    refine wpAny_pyIter_tuple (show s1.heap.IsTuple a its.toArray from p) ?_
    exact ⟨s1.heap.objs.size, [s1.heap.objs.size], _, _, H1, rfl, I1.kept (t' := s1.toks) fun b o e => Heap.get?_push_of_some _ e, turn_tuple a _, ⟨_, Heap.get?_push_size _ rfl, rfl, rfl⟩, fp, q⟩
def itemsS : D → Option (List D)
  | .list ds => some ds
  | .tuple ds => some ds
  | _ => none
/-- the signs of a text -/
def signs (x : Str) : List D := x.cps.toList.map fun c => PyData.str ⟨#[c]⟩
def seqD (d : D) (Q : List D → Prop) : Prop := match d with
  | .list ds => ds.length ≤ sizeLine → Q ds
  | .tuple ds => ds.length ≤ sizeLine → Q ds
  | .str x => Q (signs x)
  | _ => False
def aSeq (m : ME) : MA := fun ρ Q => m ρ fun d => seqD d Q
theorem Wk.str {I : SI} {W : DW} {K : PySem.W.Frag} {σ : St} {ρ : En} {H : Hp} (x : Str) : Wk I W K σ ρ H (Its x) (signs x) :=
  ⟨[], (fun p hp => nomatch hp), fun H' av' l hp c _ i => ⟨fun d hd => by
    unfold signs at hd
    rw [List.getElem?_map, Option.map_eq_some_iff] at hd
    obtain ⟨j, hj, rfl⟩ := hd
    obtain ⟨hlt, e⟩ := List.getElem?_eq_some_iff.mp hj
    refine ⟨(show i < x.cps.size by simpa using hlt), fun y H'' z => ?_⟩
    obtain ⟨e1, c, hc, e2⟩ := (show H'' = H' ∧ ∃ c, x.cps[i]? = some c ∧ y = .str ⟨#[c]⟩ from z)
    rw [← Array.getElem?_toList, hj] at hc
    cases hc
    exact .inl ⟨e1, by rw [e2]; exact .str _⟩, fun h => by unfold signs at h; rw [List.length_map] at h; exact (show x.cps.size ≤ i by simpa using h)⟩⟩
section
variable {I : SI} {X : Cx} {tg e : Expr} {es : List Expr} {m : ME} {ma : MA} {pos p : Pos}
theorem Wk.list {W : DW} {K : PySem.W.Frag} {σ : St} {ρ : En} {H : Hp} {a : Addr} {xs : List V} {ds : List D} {objs : List (Addr × HO)} (w : SeqW I W K σ ρ H true a xs objs) (r : RepA K (avA W I.own σ ρ) (unl W.L H) xs ds) : Wk I W K σ ρ H (Itl K a) ds :=
  ⟨objs, w.keeps, fun H' av' l hk c _ i => ⟨fun d hd => by
    obtain ⟨v, hv, rv⟩ := r.get hd
    refine ⟨⟨xs, v, w.sqL l hk, hv⟩, fun x H'' y => ?_⟩
    obtain ⟨e1, e2⟩ := (show H'' = H' ∧ ∀ xs, SqL K H' a xs → xs[i]? = some x from y)
    have := e2 xs (w.sqL l hk)
    rw [hv] at this; cases this
    exact .inl ⟨e1, rv.mono c⟩, fun h => ⟨xs, w.sqL l hk, by rw [r.len]; exact h⟩⟩⟩
theorem Wk.tup {W : DW} {K : PySem.W.Frag} {σ : St} {ρ : En} {H : Hp} {a : Addr} {xs : List V} {ds : List D} {objs : List (Addr × HO)} (w : SeqW I W K σ ρ H false a xs objs) (r : RepA K (avA W I.own σ ρ) (unl W.L H) xs ds) : Wk I W K σ ρ H (Itt K a) ds :=
  ⟨objs, w.keeps, fun H' av' l hk c _ i => ⟨fun d hd => by
    obtain ⟨v, hv, rv⟩ := r.get hd
    refine ⟨⟨xs, v, w.sqT l hk, hv⟩, fun x H'' y => ?_⟩
    obtain ⟨e1, e2⟩ := (show H'' = H' ∧ ∀ xs, SqT K H' a xs → xs[i]? = some x from y)
    have := e2 xs (w.sqT l hk)
    rw [hv] at this; cases this
    exact .inl ⟨e1, rv.mono c⟩, fun h => ⟨xs, w.sqT l hk, by rw [r.len]; exact h⟩⟩⟩
theorem di_seq {pr : PR} (h : DQ I X e m) : DI pr I X tg e (aSeq m) :=
  pi_imp (pi_seq h) fun σ H R ⟨W, ρ, Qd, ok, S, _, hm, f⟩ => ⟨W, ρ, _, ok, S, hm, fun v H1 d q e1 S1 sq => by
    cases d <;> try exact False.elim q
    · cases (show v = .str _ from sq)
      exact .inl ⟨_, rfl, f _ _ _ q e1 S1 (Wk.str _)⟩
    · obtain ⟨a, xs, objs, rfl, w, z, r⟩ := sq
      exact .inr ⟨a, rfl, .inl ⟨⟨xs, w.sqL S1.lkd fun p hp => (w.keeps p hp).1⟩, f _ _ _ (q (by rw [← r.len]; exact z)) e1 S1 (Wk.list w r)⟩⟩
    · obtain ⟨a, xs, objs, rfl, w, z, r⟩ := sq
      exact .inr ⟨a, rfl, .inr ⟨⟨xs, w.sqT S1.lkd fun p hp => (w.keeps p hp).1⟩, f _ _ _ (q (by rw [← r.len]; exact z)) e1 S1 (Wk.tup w r)⟩⟩⟩
def rngD (lo hi : Int) : List D := (List.range (hi - lo).toNat).map fun (i : Nat) => PyData.int (lo + i)
def rngOk (i : Int) : Prop := -(2 ^ 62) ≤ i ∧ i < 2 ^ 62
def aRng1 (m : MA) : MA := fun ρ Q => m ρ fun ds => match ds with
  | [.int j] => rngOk j ∧ Q (rngD 0 j)
  | _ => False
def aRng2 (m : MA) : MA := fun ρ Q => m ρ fun ds => match ds with
  | [.int i, .int j] => rngOk i ∧ rngOk j ∧ Q (rngD i j)
  | _ => False
theorem di_range1 {pr : PR} (hg : Gl X "range") (hm : X.mg "range" = none) (ha : DAE I X [e] ma) (hs : starEach [e] X.env = [(false, eval e X.env)] := by rfl) : DI pr I X tg (.Call (.Name "range" p) [e] [] pos) (aRng1 ma) :=
  pi_imp (pi_range1 hg hm ha hs) fun σ H R ⟨W, ρ, Qd, ok, S, _, hm, f⟩ => ⟨W, ρ, _, ok, S, hm, fun vs H1 ds q e1 S1 r => by
    split at q
    · rename_i j
      cases r with | cons r1 t => cases t with | nil =>
      cases r1
      refine ⟨j, rfl, q.1.1, q.1.2, f _ _ _ q.2 e1 S1 ?_⟩
      have := Wk.rng (I := I) (W := W) (K := X.K) (σ := σ) (ρ := ρ) (H := H1) 0 j.toNat
      unfold rngD
      rw [Int.sub_zero]
      exact this
    · exact q.elim⟩
theorem di_range2 {pr : PR} {e2 : Expr} (hg : Gl X "range") (hm : X.mg "range" = none) (ha : DAE I X [e, e2] ma) (hs : starEach [e, e2] X.env = [(false, eval e X.env), (false, eval e2 X.env)] := by rfl) (hs2 : starEach [e2] X.env = [(false, eval e2 X.env)] := by rfl) : DI pr I X tg (.Call (.Name "range" p) [e, e2] [] pos) (aRng2 ma) :=
  pi_imp (pi_range2 hg hm ha hs hs2) fun σ H R ⟨W, ρ, Qd, ok, S, _, hm, f⟩ => ⟨W, ρ, _, ok, S, hm, fun vs H1 ds q e1 S1 r => by
    split at q
    · rename_i i j
      cases r with | cons r1 t => cases t with | cons r2 t => cases t with | nil =>
      cases r1; cases r2
      exact ⟨i, j, rfl, ⟨q.1.1, q.1.2, q.2.1.1, q.2.1.2⟩, f _ _ _ q.2.2 e1 S1 (Wk.rng i (j - i).toNat)⟩
    · exact q.elim⟩
end
/-- range(i, j, c) with c > 0 -/
def stepN (i j c : Int) : Nat := if i < j then ((j - i - 1) / c + 1).toNat else 0
def rngC (i j c : Int) : List D := (List.range (stepN i j c)).map fun (k : Nat) => PyData.int (i + k * c)
def smallR (i : Int) : Prop := -1000000000000 ≤ i ∧ i ≤ 1000000000000
theorem rgC_up {i j c : Int} (hi : smallR i) (hj : smallR j) (hc : 0 < c) (hc' : c < 1073741824) : RgC i j c (stepN i j c) := by
  obtain ⟨h1, h2⟩ := hi
  obtain ⟨h3, h4⟩ := hj
  have e : Builtin.Range.rangeSize i j c = (stepN i j c : Int) := by
    unfold Builtin.Range.rangeSize stepN
    rw [if_pos hc]
    split
    · have : 0 ≤ (j - i - 1) / c := Int.ediv_nonneg (by omega) (by omega)
      omega
    · rfl
  have hb : (stepN i j c : Int) ≤ 3000000000000 ∧ (stepN i j c : Int) * c ≤ 3000000000000 + c := by
    unfold stepN
    split
    · have h0 : 0 ≤ (j - i - 1) / c := Int.ediv_nonneg (by omega) (by omega)
      have h5 : (j - i - 1) / c ≤ j - i - 1 := Int.ediv_le_self _ (by omega)
      have h6 : (j - i - 1) / c * c ≤ j - i - 1 := Int.ediv_mul_le _ (by omega)
      have e2 : (((j - i - 1) / c + 1).toNat : Int) = (j - i - 1) / c + 1 := Int.toNat_of_nonneg (by omega)
      rw [e2, Int.add_mul]
      omega
    · omega
  refine ⟨by omega, by omega, ?_, e⟩
  unfold Builtin.Range.small
  rw [e]
  have fits : ∀ z : Int, -9000000000000 ≤ z → z ≤ 9000000000000 → Builtin.Range.rangeFitsLong z = true := fun z h1 h2 => by
    unfold Builtin.Range.rangeFitsLong
    rw [decide_eq_true (by omega), decide_eq_true (by omega)]; rfl
  rw [fits i (by omega) (by omega), fits j (by omega) (by omega), fits c (by omega) (by omega), fits _ (by omega) (by omega), if_pos hc, fits (j + (c - 1)) (by omega) (by omega)]
  simp
def aRng3 (m : MA) : MA := fun ρ Q => m ρ fun ds => match ds with
  | [.int i, .int j, .int c] => smallR i ∧ smallR j ∧ (0 < c ∧ c < 1073741824) ∧ Q (rngC i j c)
  | _ => False
theorem di_range3 {I : SI} {X : Cx} {tg e1 e2 e3 : Expr} {ma : MA} {pos p : Pos} {pr : PR} (hg : Gl X "range") (hm : X.mg "range" = none) (ha : DAE I X [e1, e2, e3] ma) (hs : starEach [e1, e2, e3] X.env = (false, eval e1 X.env) :: starEach [e2, e3] X.env := by rfl) (hpl : (backTo pos (starEach [e2, e3] X.env)).any (·.1) = false := by rfl) : DI pr I X tg (.Call (.Name "range" p) [e1, e2, e3] [] pos) (aRng3 ma) :=
  pi_imp (pi_range3 hg hm ha hs hpl) fun σ H R ⟨W, ρ, Qd, ok, S, _, hm, f⟩ => ⟨W, ρ, _, ok, S, hm, fun vs H1 ds q e1 S1 r => by
    split at q
    · rename_i i j c
      cases r with | cons r1 t => cases t with | cons r2 t => cases t with | cons r3 t => cases t with | nil =>
      cases r1; cases r2; cases r3
      exact ⟨i, j, c, stepN i j c, rfl, rgC_up q.1 q.2.1 q.2.2.1.1 q.2.2.1.2, f _ _ _ q.2.2.2 e1 S1 (Wk.rngC i c (stepN i j c))⟩
    · exact q.elim⟩
def SI.lock (I : SI) (js : List Nat) : SI := { I with lk := js ++ I.lk }
def sForD (ds : List D) (g : MG) (b : MS) : MS := fun M ρ => ∃ P : Nat → En → Prop, P 0 ρ ∧ (∀ i d ρ', ds[i]? = some d → P i ρ' → g d ρ' fun ρ1 => b { M with nx := P (i + 1), ct := P (i + 1), bk := M.nx } ρ1) ∧ ∀ ρ', P ds.length ρ' → M.nx ρ'
def sFor (m : MA) (g : MG) (b : MS) : MS := fun M ρ => m ρ fun ds => sForD ds g b M ρ
section
variable {I : SI} {W : DW} {K : PySem.W.Frag} {σ σ' : St} {ρ ρ' : En} {H H' : Hp} {js : List Nat}
theorem WOk.lock (ok : WOk I W) : WOk (I.lock js) W := ⟨ok.bxav, ok.lbx, ok.bkst⟩
theorem WOk.unlock (ok : WOk (I.lock js) W) : WOk I W := ⟨ok.bxav, ok.lbx, ok.bkst⟩
theorem SR.lock (S : SR I W K σ H ρ) : SR (I.lock js) W K σ H ρ :=
  ⟨S.len, S.lkd, S.val, fun i d h n => let ⟨a, h1, h2, h3, h4, h5⟩ := S.own i d h n; ⟨a, h1, h2, h3, h4, fun z => h5 fun q => z (List.mem_append_right _ q)⟩, S.inj, S.fr, S.avt, S.box, S.bsl⟩
theorem Kp.unlock (k : Kp (I.lock js) W σ ρ H σ' ρ' H') : Kp I W σ ρ H σ' ρ' H' := ⟨k.st, fun i hi => k.lk i (List.mem_append_right _ hi)⟩
theorem SR.unlock (S0 : SR I W K σ H ρ) (k : Kp (I.lock js) W σ ρ H σ' ρ' H') (S : SR (I.lock js) W K σ' H' ρ') : SR I W K σ' H' ρ' :=
  ⟨S.len, S.lkd, S.val, fun i d h n => by
    obtain ⟨a, h1, h2, h3, h4, h5⟩ := S.own i d h n
    refine ⟨a, h1, h2, h3, h4, fun z => ?_⟩
    by_cases q : i ∈ js
    · obtain ⟨e1, e2, _⟩ := k.lk i (List.mem_append_left _ q)
      rw [e1] at h
      rw [e2] at h1
      obtain ⟨a', h1', _, _, _, h5'⟩ := S0.own i d h n
      rw [h1] at h1'; cases h1'
      exact h5' z
    · exact h5 fun y => (List.mem_append.mp y).elim q z, S.inj, S.fr, S.avt, S.box, S.bsl⟩
end
def tSp (pr : PR) (I : SI) (K : PySem.W.Frag) (m : MS) : TS := fun D σ H => ∃ W ρ M, WOk I W ∧ SR I W K σ H ρ ∧ pr W σ H ∧ (∀ i ∈ I.lk, i ∈ I.own) ∧ m M ρ ∧ EndS I W K σ ρ H M D
def DSp (pr : PR) (I : SI) (X : Cx) (st : Stmt) (m : MS) : Prop := PS X st (tSp pr I X.K m)
theorem ds_noPr {I : SI} {X : Cx} {st : Stmt} {m : MS} (h : DSp noPr I X st m) : DS I X st m := ps_imp h fun D σ H ⟨W, ρ, M, ok, S, hl, hm, E⟩ => ⟨W, ρ, M, ok, S, trivial, hl, hm, E⟩
theorem ds_forP {pr : PR} {I : SI} {X : Cx} {tg iter : Expr} {body : List Stmt} {pos : Pos} {m : MA} {g : MG} {b : MS} (js : List Nat) (hj : ∀ j ∈ js, j ∈ I.own) (hc : X.calm = true) (hi : DI pr (I.lock js) X tg iter m) (hg : DGw (I.lock js) X tg g) (hb : DSs (I.lock js) X body b)
    (hp : PassesOwn (model X.prog X.w) X.A X.env X.xe) (hs : ∀ x, foldedSetIterable iter X.env x = pure x := by intro _; rfl) : DSp pr I X (.For tg iter body [] pos) (sFor m g b) :=
  ps_imp (ps_for hp hc hi hg hb hs) fun Dn σ H ⟨W, ρ, M, ok, S, hpr, hl, hm, E⟩ => by
    have hl' : ∀ i ∈ (I.lock js).lk, i ∈ (I.lock js).own := fun i hi => (List.mem_append.mp hi).elim (hj i) (hl i)
    refine ⟨W, ρ, _, ok.lock, S.lock, hpr, hm, fun J H1 ds q e1 S1 wk => ?_⟩
    obtain ⟨P, p0, step, last⟩ := q
    have k0 : Kp (I.lock js) W σ ρ H σ ρ H1 := e1.kp ok.lock S.lock hl'
    have out : ∀ {σ2 : St} {H2 : Hp} {ρ2 : En}, M.nx ρ2 → SR (I.lock js) W X.K σ2 H2 ρ2 → Kp (I.lock js) W σ ρ H1 σ2 ρ2 H2 → Dn.nx σ2 H2 := fun hn S2 k2 => E.nx _ _ _ hn (S.unlock (k0.trans k2) S2) (k0.trans k2).unlock
    refine ⟨fun i mm σ' H' => mm = ds.length - i ∧ i ≤ ds.length ∧ ∃ ρ', P i ρ' ∧ SR (I.lock js) W X.K σ' H' ρ' ∧ Kp (I.lock js) W σ ρ H1 σ' ρ' H', ⟨_, rfl, Nat.zero_le _, ρ, p0, S1, Kp.refl⟩, ?_⟩
    rintro i mm σ' H' ⟨rfl, hi, ρ', pi, S', k'⟩
    by_cases hlt : i < ds.length
    · have hd : ds[i]? = some ds[i] := List.getElem?_eq_getElem hlt
      obtain ⟨go, yl⟩ := (wk.at S' k' i).1 _ hd
      refine .inr ⟨go, fun σ2 H2 => i + 1 ≤ ds.length ∧ ∃ ρ2, P (i + 1) ρ2 ∧ SR (I.lock js) W X.K σ2 H2 ρ2 ∧ Kp (I.lock js) W σ ρ H1 σ2 ρ2 H2, fun σ2 H2 ⟨h1, w⟩ => ⟨_, by omega, rfl, h1, w⟩, fun x H'' y => ?_⟩
      obtain ⟨S2, e2, r⟩ := YlD.sr ok.lock S' (yl x H'' y)
      have k2 := k'.trans (e2.kp ok.lock S' hl')
      refine ⟨W, ρ', ds[i], _, ok.lock, S2, hl', r, step i _ ρ' hd pi, fun σ3 H3 ρ3 q3 S3 k3 => ?_⟩
      refine ⟨W, ρ3, _, ok.lock, S3, hl', q3, ?_⟩
      have k4 := k2.trans k3
      exact ⟨fun σ4 H4 ρ4 p4 S4 k5 => ⟨hlt, ρ4, p4, S4, k4.trans k5⟩, fun v H4 d hr ro => E.rt v H4 d hr ⟨ro.rep, ro.lkd, ro.fr, ro.box, ro.bxt⟩, fun σ4 H4 ρ4 hn S4 k5 => out hn S4 (k4.trans k5), fun σ4 H4 ρ4 p4 S4 k5 => ⟨hlt, ρ4, p4, S4, k4.trans k5⟩⟩
    · have e : i = ds.length := by omega
      subst e
      exact .inl ⟨(wk.at S' k' _).2 (Nat.le_refl _), out (last _ pi) S' k'⟩
theorem ds_for {I : SI} {X : Cx} {tg iter : Expr} {body : List Stmt} {pos : Pos} {m : MA} {g : MG} {b : MS} (js : List Nat) (hj : ∀ j ∈ js, j ∈ I.own) (hc : X.calm = true) (hi : DI noPr (I.lock js) X tg iter m) (hg : DGw (I.lock js) X tg g) (hb : DSs (I.lock js) X body b)
    (hp : PassesOwn (model X.prog X.w) X.A X.env X.xe) (hs : ∀ x, foldedSetIterable iter X.env x = pure x := by intro _; rfl) : DS I X (.For tg iter body [] pos) (sFor m g b) := ds_noPr (ds_forP js hj hc hi hg hb hp hs)
end PyD
namespace PyD
open PySem PySem.Spec L2
open PyProof.Rows hiding St
def wipeD {α : Type} (σ : List (Option α)) : List Nat → List (Option α)
  | [] => σ
  | v :: vs => (wipeD σ vs).set v none
theorem wipe_eq (σ : St) : ∀ vs : List Nat, wipe σ vs = wipeD σ vs
  | [] => rfl
  | v :: vs => by show (wipe σ vs).set v none = (wipeD σ vs).set v none; rw [wipe_eq σ vs]
theorem wipeD_len {α : Type} (σ : List (Option α)) : ∀ vs : List Nat, (wipeD σ vs).length = σ.length
  | [] => rfl
  | v :: vs => by unfold wipeD; rw [List.length_set, wipeD_len σ vs]
theorem wipeD_out {α : Type} {σ : List (Option α)} {i : Nat} : ∀ {vs : List Nat}, i ∉ vs → (wipeD σ vs)[i]? = σ[i]?
  | [], _ => rfl
  | v :: vs, h => by
    have h1 : v ≠ i := fun e => h (by rw [e]; exact List.mem_cons_self)
    have h2 : i ∉ vs := fun m => h (List.mem_cons_of_mem _ m)
    unfold wipeD
    rw [List.getElem?_set_ne h1, wipeD_out h2]
theorem wipeD_in {α : Type} {σ : List (Option α)} {i : Nat} : ∀ {vs : List Nat}, i ∈ vs → ∀ d, (wipeD σ vs)[i]? ≠ some (some d)
  | [], h => nomatch h
  | v :: vs, h => fun d e => by
    unfold wipeD at e
    by_cases q : v = i
    · subst q
      rw [List.getElem?_set] at e
      rw [if_pos rfl] at e
      split at e <;> cases e
    · rw [List.getElem?_set_ne q] at e
      exact wipeD_in ((List.mem_cons.mp h).resolve_left fun z => q z.symm) d e
theorem wipeD_inN {α : Type} {σ : List (Option α)} {i : Nat} {vs : List Nat} (h : i ∈ vs) (hl : i < σ.length) : (wipeD σ vs)[i]? = some none := by
  cases e : (wipeD σ vs)[i]? with
  | none => rw [List.getElem?_eq_none_iff, wipeD_len] at e; omega
  | some o => cases o with
    | none => rfl
    | some d => exact absurd e (wipeD_in h d)
theorem wipeD_same {α : Type} {σ σ2 : List (Option α)} {vs : List Nat} (hl : σ2.length = σ.length) (h : ∀ j, j ∉ vs → σ2[j]? = σ[j]?) : wipeD σ2 vs = wipeD σ vs := by
  apply List.ext_getElem?
  intro j
  by_cases hj : j ∈ vs
  · by_cases q : j < σ.length
    · rw [wipeD_inN hj q, wipeD_inN hj (by omega)]
    · rw [List.getElem?_eq_none (by rw [wipeD_len]; omega), List.getElem?_eq_none (by rw [wipeD_len]; omega)]
  · rw [wipeD_out hj, wipeD_out hj, h j hj]
theorem wipeD_ofsome {α : Type} {σ : List (Option α)} {i : Nat} {d : α} {vs : List Nat} (h : (wipeD σ vs)[i]? = some (some d)) : σ[i]? = some (some d) := by
  by_cases q : i ∈ vs
  · exact absurd h (wipeD_in q d)
  · rw [wipeD_out q] at h; exact h
section
variable {I : SI} {W : DW} {K : PySem.W.Frag} {σ σ2 : St} {ρ ρ2 : En} {H H2 : Hp} {vs : List Nat}
theorem avA_wipe (hv : ∀ v ∈ vs, v ∉ I.own) (b : Addr) : avA W I.own (wipeD σ vs) (wipeD ρ vs) b ↔ avA W I.own σ ρ b := by
  constructor
  · rintro (z | ⟨i, hi, ⟨d, hd⟩, hs⟩)
    · exact .inl z
    · exact .inr ⟨i, hi, ⟨d, wipeD_ofsome hd⟩, wipeD_ofsome hs⟩
  · rintro (z | ⟨i, hi, ⟨d, hd⟩, hs⟩)
    · exact .inl z
    · have q : i ∉ vs := fun z => hv i z hi
      exact .inr ⟨i, hi, ⟨d, by rw [wipeD_out q]; exact hd⟩, by rw [wipeD_out q]; exact hs⟩
theorem cm_wipe (hv : ∀ v ∈ vs, v ∉ I.own) {U : Hp} : Cm (avA W I.own σ ρ) (avA W I.own (wipeD σ vs) (wipeD ρ vs)) U U := ⟨fun b _ n _ z => n ((avA_wipe hv b).mp z), fun _ _ _ _ h => h, fun _ _ _ h => h⟩
theorem SR.wipe (S : SR I W K σ H ρ) (hv : ∀ v ∈ vs, v ∉ I.own) (hb : ∀ v ∈ vs, I.bs ≠ some v) : SR I W K (wipeD σ vs) H (wipeD ρ vs) where
  len := by rw [wipeD_len, wipeD_len]; exact S.len
  lkd := S.lkd
  val := fun i d hd n => by
    have q : i ∉ vs := fun z => wipeD_in z d hd
    rw [wipeD_out q] at hd
    obtain ⟨v, h1, r⟩ := S.val i d hd n
    exact ⟨v, by rw [wipeD_out q]; exact h1, r.mono (cm_wipe hv)⟩
  own := fun i d hd n => by
    have q : i ∉ vs := fun z => hv i z n
    rw [wipeD_out q] at hd
    obtain ⟨a, h1, ow, h2⟩ := S.own i d hd n
    exact ⟨a, by rw [wipeD_out q]; exact h1, ow.mono (cm_wipe hv) rfl, h2⟩
  inj := fun i j a hi hj ⟨d, hd⟩ ⟨e, he⟩ hs ht => S.inj i j a hi hj ⟨d, wipeD_ofsome hd⟩ ⟨e, wipeD_ofsome he⟩ (wipeD_ofsome hs) (wipeD_ofsome ht)
  fr := S.fr
  avt := S.avt
  box := S.box
  bsl := fun i hi => by
    have q : i ∉ vs := fun z => hb i z hi
    obtain ⟨p, h1, h2⟩ := S.bsl i hi
    exact ⟨p, h1, by rw [wipeD_out q]; exact h2⟩
/-- the names as they were, in a heap that has grown -/
theorem SR.back (ok : WOk I W) (S : SR I W K σ H ρ) (S2 : SR I W K σ2 H2 ρ2) {T : Addr} (hT : W.av T) (e : ∀ b o, b ≠ T → unl W.L H b = some o → ¬ W.bx b → unl W.L H2 b = some o) : SR I W K σ H2 ρ := by
  have aT : avA W I.own σ ρ T := .inl hT
  have c : Cm (avA W I.own σ ρ) (avA W I.own σ ρ) (unl W.L H) (unl W.L H2) := by
    have n : ∀ b, ¬ avA W I.own σ ρ b → b ≠ T ∧ ¬ W.bx b := fun b n => ⟨fun z => n (z ▸ aT), fun z => n (.inl (ok.bxav b z))⟩
    exact ⟨fun _ _ n _ => n, fun b u _ nb r => rd_up r fun o h => e b o (n b nb).1 h (n b nb).2, fun b xs nb r => e b _ (n b nb).1 r (n b nb).2⟩
  refine ⟨S.len, S2.lkd, fun i d h n => ?_, fun i d h n => ?_, S.inj, S2.fr, S2.avt, S2.box, S.bsl⟩
  · obtain ⟨v, h1, r⟩ := S.val i d h n
    exact ⟨v, h1, r.mono c⟩
  · obtain ⟨a, h1, ow, h2, h3, h4⟩ := S.own i d h n
    refine ⟨a, h1, ow.mono c ?_, h2, h3, h4⟩
    obtain ⟨u, hu, _⟩ := ow.some
    rw [hu]
    exact e a u (fun z => h2 (z ▸ hT)) hu (S.ownbx ok h n h1)
/-- a thing that is kept back is written -/
theorem SR.wrAv (ok : WOk I W) (S : SR I W K σ H ρ) {T : Addr} (hT : W.av T) (nb : ¬ W.bx T) (n0 : W.H0 T = none) (nl : W.L.lookup T = none) {o : HO} (ho : ntup o = true) : SR I W K σ (upd H T o) ρ := by
  have hU : unl W.L (upd H T o) = upd (unl W.L H) T o := unl_upd nl
  have ne : ∀ b, ¬ avA W I.own σ ρ b → b ≠ T := fun b n z => n (.inl (z ▸ hT))
  have c : Cm (avA W I.own σ ρ) (avA W I.own σ ρ) (unl W.L H) (unl W.L (upd H T o)) := ⟨fun _ _ n _ => n, fun b u _ n r => by rw [hU]; exact rd_up r fun q hq => by rw [upd_ne (ne b n)]; exact hq, fun b xs n r => by rw [hU, upd_ne (ne b n)]; exact r⟩
  refine ⟨S.len, fun b u e => ?_, fun i d h n => ?_, fun i d h n => ?_, S.inj, fun b u e n => ?_, fun b hb => ?_, fun p hp => ?_, S.bsl⟩
  · obtain ⟨m, q⟩ := S.lkd b u e
    refine ⟨m, ?_⟩
    rw [upd_ne, q]
    rintro rfl
    rw [nl] at e; cases e
  · obtain ⟨v, h1, r⟩ := S.val i d h n
    exact ⟨v, h1, r.mono c⟩
  · obtain ⟨a, h1, ow, h2, h3, h4⟩ := S.own i d h n
    have q : a ≠ T := fun z => h2 (z ▸ hT)
    exact ⟨a, h1, ow.mono c (by rw [hU, upd_ne q]), h2, h3, h4⟩
  · have q : b ≠ T := fun z => by rw [z, n0] at e; cases e
    rw [hU, upd_ne q]; exact S.fr b u e n
  · by_cases q : b = T
    · subst q; exact ⟨o, by rw [hU, upd_same], ho⟩
    · rw [hU, upd_ne q]; exact S.avt b hb
  · have q : ∀ b, W.bx b → b ≠ T := fun b hb z => nb (z ▸ hb)
    refine ok.bkst _ _ _ _ ?_ ?_ (S.box p hp)
    · rw [hU, upd_ne (q _ ⟨p, hp, .inl rfl⟩)]
    · rw [hU, upd_ne (q _ ⟨p, hp, .inr rfl⟩)]
end
def DTs (I : SI) (X : Cx) (ifs : List Expr) (t : MT) : Prop := PTs X ifs (tT I X.K t)
theorem pts_imp {X : Cx} {e : List Expr} {t t' : TT} (h : PTs X e t) (k : ∀ σ H Q, t' σ H Q → t σ H Q) : PTs X e t' := ⟨fun pins s σ H Q I q => h.run pins s σ H Q I (k _ _ _ q)⟩
def tTrue : MT := fun _ Q => Q true
theorem dts_nil {I : SI} {X : Cx} : DTs I X [] tTrue := pts_imp pts_nil fun σ H Q ⟨W, ρ, Qd, ok, S, hm, f⟩ => f.here S hm
theorem dts_one {I : SI} {X : Cx} {c : Expr} {t : MT} (h : DT I X c t) : DTs I X [c] t := pts_one h
def mLcD (ds : List D) (vs : List Nat) (g : MG) (t : MT) (e : ME) : ME := fun ρ Q => ∃ P : Nat → List D → Prop, P 0 [] ∧
  (∀ i d acc, ds[i]? = some d → P i acc → g d (wipeD ρ vs) fun ρ1 => t ρ1 fun c => if c = true then e ρ1 fun y => acc.length < sizeLine ∧ P (i + 1) (acc ++ [y]) else P (i + 1) acc) ∧ ∀ acc, P ds.length acc → Q (.list acc)
def mLc (vs : List Nat) (m : MA) (g : MG) (t : MT) (e : ME) : ME := fun ρ Q => m ρ fun ds => mLcD ds vs g t e ρ Q
theorem lc_run {pr : PR} {I : SI} {X : Cx} {W : DW} {σ : St} {ρ : En} {H : Hp} {Q : VK} {Qd : D → Prop} {m : MA} {g : MG} {t : MT} {e : ME} {vs ts js : List Nat} (ok : WOk I W) (S : SR I W X.K σ H ρ) (hpr : pr W σ H) (hl : ∀ i ∈ I.lk, i ∈ I.own) (hj : ∀ j ∈ js, j ∈ I.own)
    (hv : ∀ v ∈ vs, v ∉ I.own) (hb : ∀ v ∈ vs, I.bs ≠ some v) (hts : ∀ v ∈ ts, v ∈ vs) (hm : mLc vs m g t e ρ Qd) (f : FinF I W X.K σ ρ H Qd Q) :
    tLc (tI pr (I.lock js) X.K m) (tG (I.lock js) X.K ts g) (tT (I.lock js) X.K t) (tD (I.lock js) X.K e) vs σ H Q := by
  refine ⟨W, ρ, _, ok.lock, S.lock, hpr, hm, fun J H1 ds q e1 S1 wk => ?_⟩
  obtain ⟨P, p0, step, last⟩ := q
  intro T hT
  have S1' : SR I W X.K σ H1 ρ := ⟨S1.len, S1.lkd, S1.val, fun i d h n => by
    obtain ⟨a, h1, h2, h3, h4, h5⟩ := S1.own i d h n
    obtain ⟨a', h1', _, _, _, h5'⟩ := S.own i d h n
    rw [h1] at h1'; cases h1'
    exact ⟨a, h1, h2, h3, h4, h5'⟩, S1.inj, S1.fr, S1.avt, S1.box, S1.bsl⟩
  have hl' : ∀ i ∈ (I.lock js).lk, i ∈ (I.lock js).own := fun i hi => (List.mem_append.mp hi).elim (hj i) (hl i)
  have nl : W.L.lookup T = none := S1.lkd.free hT
  have nU : unl W.L H1 T = none := S1.freshU hT
  have nav : ¬ W.av T := fun z => S1'.fresh hT (.inl z)
  have nbx : ¬ W.bx T := fun z => nav (ok.bxav T z)
  have n0 : W.H0 T = none := by
    cases h : W.H0 T with
    | none => rfl
    | some o => have := S1.fr T o h nbx; rw [nU] at this; cases this
  have ok' : WOk (I.lock js) (W.add T) := ok.lock.add T nl
  have SN : SR (I.lock js) (W.add T) X.K σ (upd H1 T (.lst [])) ρ := S1.newAdd ok.lock hT rfl
  have aT : (W.add T).av T := .inr rfl
  -- what stays of the heap at the start
  let St1 : Hp → Prop := fun H' => ∀ b o, unl W.L H1 b = some o → ¬ W.bx b → unl W.L H' b = some o
  refine ⟨fun i mm H' => mm = ds.length - i ∧ i ≤ ds.length ∧ ∃ acc xs, P i acc ∧ SR (I.lock js) (W.add T) X.K σ H' ρ ∧ H' T = some (.lst xs) ∧ xs.length ≤ sizeLine ∧ RepA X.K (avA (W.add T) I.own σ ρ) (unl W.L H') xs acc ∧ St1 H',
    ⟨_, rfl, Nat.zero_le _, [], [], p0, SN, upd_same, Nat.zero_le _, .nil, fun b o h n => by
      rw [unl_upd nl, upd_ne]
      · exact h
      · rintro rfl; rw [nU] at h; cases h⟩, ?_⟩
  rintro i mm H' ⟨rfl, hi, acc, xs, pa, S', hx, hz, ra, st⟩
  by_cases hlt : i < ds.length
  · have hd : ds[i]? = some ds[i] := List.getElem?_eq_getElem hlt
    have SW : SR (I.lock js) (W.add T) X.K (wipeD σ vs) H' (wipeD ρ vs) := S'.wipe hv hb
    -- the turn's thing
    obtain ⟨objs, o1, o2⟩ := wk
    have av1 : ∀ b, ¬ avA W I.own σ ρ b → ¬ W.bx b := fun b n z => n (.inl (ok.bxav b z))
    have cm : Cm (avA W (I.lock js).own σ ρ) (avA (W.add T) (I.lock js).own (wipeD σ vs) (wipeD ρ vs)) (unl W.L H1) (unl W.L H') := by
      refine ⟨fun b o n h z => ?_, fun b u _ n r => rd_up r fun o h => st b o h (av1 b n), fun b ys n h => st b _ h (av1 b n)⟩
      rcases (avA_wipe hv b).mp z with (z | z) | z
      · exact n (.inl z)
      · rw [z, nU] at h; cases h
      · exact n (.inr z)
    obtain ⟨h1, _⟩ := o2 H' _ S'.lkd (fun p hp => by
      obtain ⟨a, n⟩ := o1 p hp
      refine st _ _ a ?_
      rcases n with n | ⟨k, hk, hs, d, hd⟩
      · exact av1 _ n
      · exact S1'.ownbx ok hd (hl' k hk) hs) cm (fun b xs h => SW.tupAv h) i
    obtain ⟨go, yl⟩ := h1 _ hd
    refine .inr ⟨go, fun H5 => i + 1 ≤ ds.length ∧ ∃ acc xs, P (i + 1) acc ∧ SR (I.lock js) (W.add T) X.K σ H5 ρ ∧ H5 T = some (.lst xs) ∧ xs.length ≤ sizeLine ∧ RepA X.K (avA (W.add T) I.own σ ρ) (unl W.L H5) xs acc ∧ St1 H5, fun H5 ⟨h1, w⟩ => ⟨_, by omega, rfl, h1, w⟩, fun x H'' y => ?_⟩
    obtain ⟨S2, e2, r⟩ := YlD.sr (W := W.add T) ok' SW (yl x H'' y)
    rw [wipe_eq]
    refine ⟨W.add T, wipeD ρ vs, ds[i], _, ok', S2, hl', r, step i _ acc hd pa, fun σ3 H3 ρ3 q3 S3 k3 key3 o3 ⟨hH, ln⟩ => ?_⟩
    subst hH
    have w3 : wipeD σ3 vs = wipeD σ vs := wipeD_same (by rw [ln, wipeD_len]) fun j hj => by rw [(o3 j fun z => hj (hts j z)).1, wipeD_out hj]
    refine ⟨by rw [wipe_eq, w3], W.add T, ρ3, _, ok', S3, q3, fun b H4 q4 e4 S4 => ?_⟩
    have hU' : unl W.L H' T = some (.lst xs) := by rw [unl_none nl]; exact hx
    cases b with
    | false =>
      simp only [Bool.false_eq_true, if_false] at q4 ⊢
      have e24 : ∀ b o, unl W.L H' b = some o → ¬ W.bx b → unl W.L H4 b = some o := fun b o h n => e4 b o (e2 b o h n) n
      refine ⟨hlt, acc, xs, q4, S'.back ok' S4 aT fun b o _ => e24 b o, ?_, hz, ra.mono ?_, fun b o h n => e24 b o (st b o h n) n⟩
      · have := e24 T _ hU' nbx
        rw [unl_none nl] at this; exact this
      · have av2 : ∀ b, ¬ avA (W.add T) I.own σ ρ b → ¬ W.bx b := fun b n z => n (.inl (.inl (ok.bxav b z)))
        exact ⟨fun _ _ n _ => n, fun b u _ n r => rd_up r fun o h => e24 b o h (av2 b n), fun b ys n h => e24 b _ h (av2 b n)⟩
    | true =>
      simp only [if_true] at q4 ⊢
      refine ⟨W.add T, ρ3, _, ok', S4, q4, fun yv H5 yd q5 e5 S5 r5 => ?_⟩
      have e25 : ∀ b o, unl W.L H' b = some o → ¬ W.bx b → unl W.L H5 b = some o := fun b o h n => e5 b o (e4 b o (e2 b o h n) n) n
      have hT5 : H5 T = some (.lst xs) := by
        have := e25 T _ hU' nbx
        rw [unl_none nl] at this; exact this
      have S6 : SR (I.lock js) (W.add T) X.K σ H5 ρ := S'.back ok' S5 aT fun b o _ => e25 b o
      have nbx' : ¬ (W.add T).bx T := nbx
      have S7 : SR (I.lock js) (W.add T) X.K σ (upd H5 T (.lst (xs ++ [yv]))) ρ := S6.wrAv ok' aT nbx' n0 nl rfl
      have hU7 : unl W.L (upd H5 T (.lst (xs ++ [yv]))) = upd (unl W.L H5) T (.lst (xs ++ [yv])) := unl_upd nl
      have neT : ∀ b, ¬ avA (W.add T) I.own σ ρ b → b ≠ T := fun b n z => n (.inl (.inr z))
      have av2 : ∀ b, ¬ avA (W.add T) I.own σ ρ b → ¬ W.bx b := fun b n z => n (.inl (.inl (ok.bxav b z)))
      refine ⟨xs, hT5, by rw [ra.len]; exact q5.1, hlt, acc ++ [yd], xs ++ [yv], q5.2, S7, upd_same, ?_, RepA.app (ra.mono ?_) (.cons (r5.mono ?_) .nil), fun b o h n => ?_⟩
      · have := q5.1
        rw [List.length_append, ra.len]; exact this
      · exact ⟨fun _ _ n _ => n, fun b u _ n r => rd_up r fun o h => by rw [hU7, upd_ne (neT b n)]; exact e25 b o h (av2 b n), fun b ys n h => by rw [hU7, upd_ne (neT b n)]; exact e25 b _ h (av2 b n)⟩
      · -- the names of the block are the names of the def, for what is kept back
        have key : ∀ b, avA (W.add T) I.own σ3 ρ3 b ↔ avA (W.add T) I.own σ ρ b := fun b => (key3 b).trans (avA_wipe hv b)
        exact ⟨fun b _ n _ z => n ((key b).mpr z), fun b u _ n r => rd_up r fun o h => by rw [hU7, upd_ne (neT b fun z => n ((key b).mpr z))]; exact h, fun b ys n h => by rw [hU7, upd_ne (neT b fun z => n ((key b).mpr z))]; exact h⟩
      · have hbT : b ≠ T := fun z => by rw [z, nU] at h; cases h
        rw [hU7, upd_ne hbT]
        exact e25 b o (st b o h n) n
  · have e : i = ds.length := by omega
    subst e
    refine .inl ⟨?_, f T H' _ (last _ pa) ?_ ?_ (.lst (by rw [unl_none nl]; exact hx) hz ra) nav n0 nl ?_⟩
    · obtain ⟨objs, o1, o2⟩ := wk
      have av1 : ∀ b, ¬ avA W I.own σ ρ b → ¬ W.bx b := fun b n z => n (.inl (ok.bxav b z))
      refine (o2 H' (avA (W.add T) (I.lock js).own σ ρ) S'.lkd (fun p hp => ?_) ?_ (fun b xs h => S'.tupAv h) _).2 (Nat.le_refl _)
      · obtain ⟨a, n⟩ := o1 p hp
        refine st _ _ a ?_
        rcases n with n | ⟨k, hk, hs, d, hd⟩
        · exact av1 _ n
        · exact S1'.ownbx ok hd (hl' k hk) hs
      · refine ⟨fun b o n h z => ?_, fun b u _ n r => rd_up r fun o h => st b o h (av1 b n), fun b ys n h => st b _ h (av1 b n)⟩
        rcases z with (z | z) | z
        · exact n (.inl z)
        · rw [z, nU] at h; cases h
        · exact n (.inr z)
    · exact fun b o h n => st b o (e1 b o h n) n
    · exact ⟨S'.len, S'.lkd, S'.val, fun i d h n => by
        obtain ⟨a, h1, h2, h3, h4, h5⟩ := S'.own i d h n
        obtain ⟨a', h1', _, _, _, h5'⟩ := S.own i d h n
        rw [h1] at h1'; cases h1'
        exact ⟨a, h1, h2, h3, h4, h5'⟩, S'.inj, S'.fr, S'.avt, S'.box, S'.bsl⟩
    · cases h : unl W.L H T with
      | none => rfl
      | some o => have := e1 T o h nbx; rw [nU] at this; cases this
section
variable {I : SI} {X : Cx} {elt tg iter : Expr} {ifs : List Expr} {scope : Scope} {pos spos py : Pos} {y : Str} {m : MA} {g : MG} {t : MT} {e : ME} {ts : List Nat}
/-- what a comprehension's rule asks of its slots -/
def LcOk (I : SI) (js vs ts : List Nat) : Prop := (∀ j ∈ js, j ∈ I.own) ∧ (∀ v ∈ vs, v ∉ I.own) ∧ (∀ v ∈ vs, I.bs ≠ some v) ∧ ∀ v ∈ ts, v ∈ vs
def tFp (pr : PR) (I : SI) (K : PySem.W.Frag) (m : ME) : TE := fun σ H Q => ∃ W ρ Qd, WOk I W ∧ SR I W K σ H ρ ∧ pr W σ H ∧ m ρ Qd ∧ FinF I W K σ ρ H Qd Q
def DFp (pr : PR) (I : SI) (X : Cx) (e : Expr) (m : ME) : Prop := PE X e (tFp pr I X.K m)
theorem df_noPr {e : Expr} {m : ME} (h : DFp noPr I X e m) : DF I X e m := pe_imp h fun σ H Q ⟨W, ρ, Qd, ok, S, hm, f⟩ => ⟨W, ρ, Qd, ok, S, trivial, hm, f⟩
theorem df_lcP {pr : PR} (own : List (Str × Nat)) (js : List Nat) (hk : LcOk I js (own.map (·.2)) ts) (hl : ∀ i ∈ I.lk, i ∈ I.own) (hc : X.calm = true) (hN : X.N.Nodup) (hi : DI pr (I.lock js) X tg iter m) (ok : BlkOk X.N X.env.scope scope own)
    (hg : ∀ (s : Shared) (H : Hp) (C : Addr) (cl : List (Str × Addr)) (fp : List Addr), DG (I.lock js) (X.blk s H scope (compEnvC scope cl C X.env) fp) tg ts g)
    (ht : ∀ (s : Shared) (H : Hp) (C : Addr) (cl : List (Str × Addr)) (fp : List Addr), DTs (I.lock js) (X.blk s H scope (compEnvC scope cl C X.env) fp) ifs t)
    (he : ∀ (s : Shared) (H : Hp) (C : Addr) (cl : List (Str × Addr)) (fp : List Addr), DE (I.lock js) (X.blk s H scope (compEnvC scope cl C X.env) fp) elt e) (hs : ∀ x, foldedSetIterable iter X.env x = pure x := by intro _; rfl) :
    DFp pr I X (.ListComp elt [⟨tg, iter, ifs, 0⟩] scope pos) (mLc (own.map (·.2)) m g t e) :=
  pe_imp (pe_lc (g := tG (I.lock js) X.K ts g) (tt := tT (I.lock js) X.K t) (te := tD (I.lock js) X.K e) hc hN hi ok hg ht he hs) fun σ H Q ⟨W, ρ, Qd, okW, S, hpr, hm, f⟩ => lc_run okW S hpr hl hk.1 hk.2.1 hk.2.2.1 hk.2.2.2 hm f
theorem df_lc (own : List (Str × Nat)) (js : List Nat) (hk : LcOk I js (own.map (·.2)) ts) (hl : ∀ i ∈ I.lk, i ∈ I.own) (hc : X.calm = true) (hN : X.N.Nodup) (hi : DI noPr (I.lock js) X tg iter m) (ok : BlkOk X.N X.env.scope scope own)
    (hg : ∀ (s : Shared) (H : Hp) (C : Addr) (cl : List (Str × Addr)) (fp : List Addr), DG (I.lock js) (X.blk s H scope (compEnvC scope cl C X.env) fp) tg ts g)
    (ht : ∀ (s : Shared) (H : Hp) (C : Addr) (cl : List (Str × Addr)) (fp : List Addr), DTs (I.lock js) (X.blk s H scope (compEnvC scope cl C X.env) fp) ifs t)
    (he : ∀ (s : Shared) (H : Hp) (C : Addr) (cl : List (Str × Addr)) (fp : List Addr), DE (I.lock js) (X.blk s H scope (compEnvC scope cl C X.env) fp) elt e) (hs : ∀ x, foldedSetIterable iter X.env x = pure x := by intro _; rfl) :
    DF I X (.ListComp elt [⟨tg, iter, ifs, 0⟩] scope pos) (mLc (own.map (·.2)) m g t e) := df_noPr (df_lcP own js hk hl hc hN hi ok hg ht he hs)
theorem ds_setLcO (i : Nat) (own : List (Str × Nat)) (js : List Nat) (hk : LcOk I js (own.map (·.2)) ts) (ho : i ∈ I.own) (hkl : i ∉ I.lk) (hb : I.bs ≠ some i) (hc : X.calm = true) (hN : X.N.Nodup) (hy : X.N[i]? = some y) (hyl : X.env.scope.names.lookup y = some .local)
    (hsw : swapsWith (.ListComp elt [⟨tg, iter, ifs, 0⟩] scope pos) (some (.Name y py)) spos.line X.env = pure true) (hi : DI noPr (I.lock js) X tg iter m) (ok : BlkOk X.N X.env.scope scope own)
    (hg : ∀ (s : Shared) (H : Hp) (C : Addr) (cl : List (Str × Addr)) (fp : List Addr), DG (I.lock js) (X.blk s H scope (compEnvC scope cl C X.env) fp) tg ts g)
    (ht : ∀ (s : Shared) (H : Hp) (C : Addr) (cl : List (Str × Addr)) (fp : List Addr), DTs (I.lock js) (X.blk s H scope (compEnvC scope cl C X.env) fp) ifs t)
    (he : ∀ (s : Shared) (H : Hp) (C : Addr) (cl : List (Str × Addr)) (fp : List Addr), DE (I.lock js) (X.blk s H scope (compEnvC scope cl C X.env) fp) elt e) (hs : ∀ x, foldedSetIterable iter X.env x = pure x := by intro _; rfl) :
    DS I X (.Assign [.Name y py] (.ListComp elt [⟨tg, iter, ifs, 0⟩] scope pos) spos) (sSet i (mLc (own.map (·.2)) m g t e)) :=
  ps_imp (ps_setLc (g := tG (I.lock js) X.K ts g) (tt := tT (I.lock js) X.K t) (te := tD (I.lock js) X.K e) hc hN hy hyl hsw hi ok hg ht he hs) fun D σ H ⟨W, ρ, M, okW, S, hl, hm, E⟩ => lc_run (pr := noPr) okW S trivial hl hk.1 hk.2.1 hk.2.2.1 hk.2.2.2 hm fun p H' d q e1 S1 ow nv n0 nl nf => by
    obtain ⟨S2, key⟩ := S1.setO okW ho hb ow nv n0 nl
    exact E.nx _ _ _ q S2 (Kp.setO okW hl S e1 nf hkl key)
theorem ds_setLcV (i : Nat) (own : List (Str × Nat)) (js : List Nat) (hk : LcOk I js (own.map (·.2)) ts) (ho : i ∉ I.own) (hb : I.bs ≠ some i) (hc : X.calm = true) (hN : X.N.Nodup) (hy : X.N[i]? = some y) (hyl : X.env.scope.names.lookup y = some .local)
    (hsw : swapsWith (.ListComp elt [⟨tg, iter, ifs, 0⟩] scope pos) (some (.Name y py)) spos.line X.env = pure true) (hi : DI noPr (I.lock js) X tg iter m) (ok : BlkOk X.N X.env.scope scope own)
    (hg : ∀ (s : Shared) (H : Hp) (C : Addr) (cl : List (Str × Addr)) (fp : List Addr), DG (I.lock js) (X.blk s H scope (compEnvC scope cl C X.env) fp) tg ts g)
    (ht : ∀ (s : Shared) (H : Hp) (C : Addr) (cl : List (Str × Addr)) (fp : List Addr), DTs (I.lock js) (X.blk s H scope (compEnvC scope cl C X.env) fp) ifs t)
    (he : ∀ (s : Shared) (H : Hp) (C : Addr) (cl : List (Str × Addr)) (fp : List Addr), DE (I.lock js) (X.blk s H scope (compEnvC scope cl C X.env) fp) elt e) (hs : ∀ x, foldedSetIterable iter X.env x = pure x := by intro _; rfl) :
    DS I X (.Assign [.Name y py] (.ListComp elt [⟨tg, iter, ifs, 0⟩] scope pos) spos) (sSet i (mLc (own.map (·.2)) m g t e)) :=
  ps_imp (ps_setLc (g := tG (I.lock js) X.K ts g) (tt := tT (I.lock js) X.K t) (te := tD (I.lock js) X.K e) hc hN hy hyl hsw hi ok hg ht he hs) fun D σ H ⟨W, ρ, M, okW, S, hl, hm, E⟩ => lc_run (pr := noPr) (Qd := fun d => M.nx (ρ.set i (some d))) okW S trivial hl hk.1 hk.2.1 hk.2.2.1 hk.2.2.2 hm (FinE.toF fun v H' d q e1 S1 r => by
    obtain ⟨S2, key⟩ := S1.setV ho hb r
    exact E.nx _ _ _ q S2 ((e1.kp okW S hl).trans (Kp.setV S1 hl ho key)))
end
end PyD
namespace PyD
open PySem PySem.Spec L2
open PyProof.Rows hiding St
section
variable {K : PySem.W.Frag} {av av' : Addr → Prop} {L : List (Addr × Obj × HO)} {H : Hp}
theorem Lkd.untR (l : Lkd L H) {b : Addr} {xs : List V} (h : TupR H b xs) : TupR (unl L H) b xs := by
  obtain ⟨o, d, h⟩ := h
  refine ⟨o, d, ?_⟩
  cases e : L.lookup b with
  | none => exact (unl_none e).trans h
  | some w =>
    obtain ⟨mu, ho⟩ := l b w e
    rw [h] at ho
    unfold tupH at ho
    split at ho
    · injection ho with ho
      injection ho with h1 h2
      rw [← h2] at mu; exact False.elim mu
    · cases ho
mutual
theorem Rep.low (l : Lkd L H) : ∀ {v : V} {d : D}, Rep K av (unl L H) v d → Rep K av H v d
  | _, _, .non => .non
  | _, _, .bl b => .bl b
  | _, _, .int i => .int i
  | _, _, .str x => .str x
  | _, _, .lst h r z a => .lst h (l.rd r) z (RepA.low l a)
  | _, _, .tup h r z a => .tup h (l.tR r) z (RepA.low l a)
  | _, _, .dcK h r a => .dcK h (l.rd r) (RepK.low l a)
  | _, _, .dcT h r a => .dcT h (l.rd r) (RepT.low l a)
theorem RepA.low (l : Lkd L H) : ∀ {v : List V} {d : List D}, RepA K av (unl L H) v d → RepA K av H v d
  | _, _, .nil => .nil
  | _, _, .cons h t => .cons (Rep.low l h) (RepA.low l t)
theorem RepK.low (l : Lkd L H) : ∀ {v : List (Key × V)} {d : List (D × D)}, RepK K av (unl L H) v d → RepK K av H v d
  | _, _, .nil => .nil
  | _, _, .cons h t => .cons (Rep.low l h) (RepK.low l t)
theorem RepT.low (l : Lkd L H) : ∀ {v : List (List Key × V)} {d : List (D × D)}, RepT K av (unl L H) v d → RepT K av H v d
  | _, _, .nil => .nil
  | _, _, .cons n h t => .cons n (Rep.low l h) (RepT.low l t)
end
mutual
theorem Rep.high (l : Lkd L H) : ∀ {v : V} {d : D}, Rep K av H v d → Rep K av (unl L H) v d
  | _, _, .non => .non
  | _, _, .bl b => .bl b
  | _, _, .int i => .int i
  | _, _, .str x => .str x
  | _, _, .lst h r z a => .lst h (l.dr rfl r) z (RepA.high l a)
  | _, _, .tup h r z a => .tup h (l.untR r) z (RepA.high l a)
  | _, _, .dcK h r a => .dcK h (l.dr rfl r) (RepK.high l a)
  | _, _, .dcT h r a => .dcT h (l.dr rfl r) (RepT.high l a)
theorem RepA.high (l : Lkd L H) : ∀ {v : List V} {d : List D}, RepA K av H v d → RepA K av (unl L H) v d
  | _, _, .nil => .nil
  | _, _, .cons h t => .cons (Rep.high l h) (RepA.high l t)
theorem RepK.high (l : Lkd L H) : ∀ {v : List (Key × V)} {d : List (D × D)}, RepK K av H v d → RepK K av (unl L H) v d
  | _, _, .nil => .nil
  | _, _, .cons h t => .cons (Rep.high l h) (RepK.high l t)
theorem RepT.high (l : Lkd L H) : ∀ {v : List (List Key × V)} {d : List (D × D)}, RepT K av H v d → RepT K av (unl L H) v d
  | _, _, .nil => .nil
  | _, _, .cons n h t => .cons n (Rep.high l h) (RepT.high l t)
end
end
abbrev MF := List D → (D → Prop) → Prop
/-- what a def promises: it looks, and hands back a value -/
def spD (K : PySem.W.Frag) (n : Nat) (φ : MF) : Sp := fun vs H Q _ => ∃ (av : Addr → Prop) (ds : List D) (Qd : D → Prop), RepA K av H vs ds ∧ ds.length = n ∧ φ ds Qd ∧ (∀ b, av b → ∃ o, H b = some o ∧ ntup o = true) ∧
  ∀ v H' d, Qd d → (∀ b o, H b = some o → H' b = some o) → Rep K av H' v d → Q v H'
abbrev BK := Hp → Addr → Addr → Prop
def BkSt (bk : BK) : Prop := ∀ H H' a c, H a = H' a → H c = H' c → bk H a c → bk H' a c
/-- .. with the box as the first argument -/
def spB (K : PySem.W.Frag) (bk : BK) (n : Nat) (φ : MF) : Sp := fun vs H Q _ => ∃ (b c : Addr) (av : Addr → Prop) (us : List V) (ds : List D) (Qd : D → Prop), vs = .ref b :: us ∧ RepA K av H us ds ∧ ds.length = n ∧ φ ds Qd ∧ (∀ b, av b → ∃ o, H b = some o ∧ ntup o = true) ∧ av b ∧ av c ∧ bk H b c ∧
  ∀ v H' d, Qd d → (∀ x o, H x = some o → x ≠ b → x ≠ c → H' x = some o) → (∀ x, x = b ∨ x = c → ∃ o, H' x = some o ∧ ntup o = true) → bk H' b c → Rep K av H' v d → Q v H'
def startD (N : List Str) (ds : List (Option D)) : En := ds ++ List.replicate (N.length - ds.length) none
theorem start_get {N : List Str} {vs : List V} {i : Nat} {v : V} (h : vs[i]? = some v) : (L2.start N vs)[i]? = some (some v) := by
  unfold L2.start
  rw [List.getElem?_append_left (by rw [List.length_map]; exact (List.getElem?_eq_some_iff.mp h).1), List.getElem?_map, h]
  rfl
theorem startD_get {N : List Str} {ds : List (Option D)} {i : Nat} {d : D} (h : (startD N ds)[i]? = some (some d)) : ds[i]? = some (some d) := by
  unfold startD at h
  by_cases q : i < ds.length
  · rw [List.getElem?_append_left q] at h; exact h
  · rw [List.getElem?_append_right (by omega), List.getElem?_replicate] at h
    split at h <;> cases h
section
variable {P : Program} {w : World} {K : PySem.W.Frag} {mg : Str → Option Value} {base : Heap}
theorem fnD {x qual : Str} {st : Stmt} {f : Addr} {fd : FuncData} {N ps : List Str} {k : Nat} (F : Fun K x qual st f fd) (S : FnScope N ps (defScope st)) (I : SI) (hbs : I.bs = none) (hlk : I.lk = []) (hown : ∀ i ∈ I.own, ps.length ≤ i) {m : MS} {φ : MF}
    (hb : ∀ (cdv : Value) (A : Around) (outer : List Env) (s : Shared) (H : Hp) (E : XK), Room k (A.deeper (envOfC qual (defScope st) s.heap.objs.size f cdv)) → DSs { I with bk := fun _ _ _ => True } (cxOf CX0 P w K mg base N qual (defScope st) f cdv A outer s H E).nox (defBody st) m)
    (hφ : ∀ ds Q, ds.length = ps.length → φ ds Q → m ⟨fun _ => Q .none, Q, fun _ => False, fun _ => False⟩ (startD N (ds.map some))) : FnOk P w K mg base CX0 (k + 1) f fd ps (spD K ps.length φ) := by
  refine F.ok S (fun vs H Q E ⟨av, ds, Qd, r, hl, _⟩ => by rw [r.len]; exact hl) (fun cdv A outer s H vs Q E hr h => ?_)
  obtain ⟨av, ds, Qd, r, hl, hp, avt, q⟩ := h
  refine ⟨_, hb cdv A outer s H E hr, ⟨H, av, none, []⟩, startD N (ds.map some), _, ?_, ?_, (fun i hi => by have hi : i ∈ I.lk := hi; rw [hlk] at hi; cases hi), hφ ds Qd hl hp, ?_⟩
  · exact ⟨(fun b ⟨p, hp, _⟩ => nomatch hp), fun b _ => rfl, fun _ _ _ _ _ _ _ => trivial⟩
  · have own0 : ∀ i d, i ∈ I.own → (startD N (ds.map some))[i]? ≠ some (some d) := fun i d hi e => by
      have := startD_get e
      rw [List.getElem?_map, List.getElem?_eq_none (by have := hown i hi; omega)] at this
      cases this
    have avS : ∀ b, avA ⟨H, av, none, []⟩ I.own (L2.start N vs) (startD N (ds.map some)) b → av b := by
      rintro b (z | ⟨i, hi, ⟨d, hd⟩, _⟩)
      · exact z
      · exact absurd hd (own0 i d hi)
    refine ⟨?_, fun b u e => (nomatch e), fun i d hd _ => ?_, fun i d hd hi => absurd hd (own0 i d hi), fun i j a hi _ ⟨d, hd⟩ => absurd hd (own0 i d hi), fun b o h _ => h, avt, fun p hp => (nomatch hp), fun i hi => ?_⟩
    · unfold startD L2.start
      rw [List.length_append, List.length_append, List.length_map, List.length_map, List.length_replicate, List.length_replicate, r.len]
    · have e := startD_get hd
      rw [List.getElem?_map, Option.map_eq_some_iff] at e
      obtain ⟨d', e1, e2⟩ := e
      cases e2
      obtain ⟨v, hv, rv⟩ := r.get e1
      exact ⟨v, start_get hv, rv.mono ⟨fun b _ n _ z => n (avS b z), fun _ _ _ _ h => h, fun _ _ _ h => h⟩⟩
    · rw [show ({ I with bk := fun _ _ _ => True } : SI).bs = I.bs from rfl, hbs] at hi; cases hi
  · have fin : ∀ v H' d, Qd d → RetOk ⟨H, av, none, []⟩ { I with bk := fun _ _ _ => True } K H' v d → Q v H' := fun v H' d hd ro => q v H' d hd (fun b o h => ro.fr b o h (fun ⟨p, hp, _⟩ => nomatch hp)) ro.rep
    refine ⟨fun σ' H' ρ' hn S' kp => q .non H' .none hn (fun b o h => S'.fr b o h (fun ⟨p, hp, _⟩ => nomatch hp)) .non, fun v H' d hd ro => q v H' d hd (fun b o h => ro.fr b o h (fun ⟨p, hp, _⟩ => nomatch hp)) ro.rep, fun _ _ _ z => z.elim, fun _ _ _ z => z.elim⟩
theorem fnB {x qual : Str} {st : Stmt} {f : Addr} {fd : FuncData} {N : List Str} {p0 : Str} {ps : List Str} {k : Nat} {bk : BK} (hst : BkSt bk) (F : Fun K x qual st f fd) (S : FnScope N (p0 :: ps) (defScope st)) (I : SI) (hbs : I.bs = some 0) (hlk : I.lk = []) (hown : ∀ i ∈ I.own, ps.length + 1 ≤ i) {m : MS} {φ : MF}
    (hb : ∀ (cdv : Value) (A : Around) (outer : List Env) (s : Shared) (H : Hp) (E : XK), Room k (A.deeper (envOfC qual (defScope st) s.heap.objs.size f cdv)) → DSs { I with bk := bk } (cxOf CX0 P w K mg base N qual (defScope st) f cdv A outer s H E).nox (defBody st) m)
    (hφ : ∀ ds Q, ds.length = ps.length → φ ds Q → m ⟨fun _ => Q .none, Q, fun _ => False, fun _ => False⟩ (startD N (none :: ds.map some))) : FnOk P w K mg base CX0 (k + 1) f fd (p0 :: ps) (spB K bk ps.length φ) := by
  refine F.ok S (fun vs H Q E ⟨b, c, av, us, ds, Qd, e, r, hl, _⟩ => by rw [e, List.length_cons, r.len, List.length_cons, hl]) (fun cdv A outer s H vs Q E hr h => ?_)
  obtain ⟨b, c, av, us, ds, Qd, rfl, r, hl, hp, avt, avb, avc, hk, q⟩ := h
  have isb : ∀ x, DW.bx ⟨H, av, some (b, c), []⟩ x → x = b ∨ x = c := fun x ⟨p, hp, h⟩ => by cases hp; exact h
  have bis : ∀ x, x = b ∨ x = c → DW.bx ⟨H, av, some (b, c), []⟩ x := fun x h => ⟨(b, c), rfl, h⟩
  refine ⟨_, hb cdv A outer s H E hr, ⟨H, av, some (b, c), []⟩, startD N (none :: ds.map some), _, ?_, ?_, (fun i hi => by have hi : i ∈ I.lk := hi; rw [hlk] at hi; cases hi), hφ ds Qd hl hp, ?_⟩
  · exact ⟨fun x h => (isb x h).elim (fun z => z ▸ avb) (fun z => z ▸ avc), fun b _ => rfl, hst⟩
  · have own0 : ∀ i d, i ∈ I.own → (startD N (none :: ds.map some))[i]? ≠ some (some d) := fun i d hi e => by
      have := startD_get e
      rw [List.getElem?_eq_none (by have := hown i hi; rw [List.length_cons, List.length_map]; omega)] at this
      cases this
    have avS : ∀ x, avA ⟨H, av, some (b, c), []⟩ I.own (L2.start N (.ref b :: us)) (startD N (none :: ds.map some)) x → av x := by
      rintro x (z | ⟨i, hi, ⟨d, hd⟩, _⟩)
      · exact z
      · exact absurd hd (own0 i d hi)
    refine ⟨?_, fun b u e => (nomatch e), fun i d hd _ => ?_, fun i d hd hi => absurd hd (own0 i d hi), fun i j a hi _ ⟨d, hd⟩ => absurd hd (own0 i d hi), fun b o h _ => h, avt, fun p hp => ?_, fun i hi => ?_⟩
    · unfold startD L2.start
      rw [List.length_append, List.length_append, List.length_map, List.length_replicate, List.length_replicate, List.length_cons, List.length_cons, List.length_map, r.len]
    · have e := startD_get hd
      cases i with
      | zero => simp at e
      | succ i =>
        rw [List.getElem?_cons_succ, List.getElem?_map, Option.map_eq_some_iff] at e
        obtain ⟨d', e1, e2⟩ := e
        cases e2
        obtain ⟨v, hv, rv⟩ := r.get e1
        exact ⟨v, start_get (by rw [List.getElem?_cons_succ]; exact hv), rv.mono ⟨fun b _ n _ z => n (avS b z), fun _ _ _ _ h => h, fun _ _ _ h => h⟩⟩
    · cases hp; exact hk
    · rw [show ({ I with bk := bk } : SI).bs = I.bs from rfl, hbs] at hi
      cases hi
      exact ⟨_, rfl, start_get (vs := .ref b :: us) rfl⟩
  · refine ⟨fun σ' H' ρ' hn S' kp => q .non H' .none hn (fun x o h n1 n2 => S'.fr x o h fun z => (isb x z).elim n1 n2) (fun x hx => S'.avt x (hx.elim (fun z => z ▸ avb) (fun z => z ▸ avc))) (S'.box _ rfl) .non,
      fun v H' d hd ro => q v H' d hd (fun x o h n1 n2 => ro.fr x o h fun z => (isb x z).elim n1 n2) (fun x hx => ro.bxt x (bis x hx)) (ro.box _ rfl) ro.rep, fun _ _ _ z => z.elim, fun _ _ _ z => z.elim⟩
end
section
variable {I : SI} {W : DW} {K : PySem.W.Frag} {σ : St} {ρ : En} {H H' : Hp}
/-- behind a call that leaves all but the box -/
theorem SR.called (ok : WOk I W) (S : SR I W K σ H ρ) (h : ∀ b o, H b = some o → ¬ W.bx b → H' b = some o) (hb : ∀ p, W.box = some p → I.bk H' p.1 p.2) (ht : ∀ b, W.bx b → ∃ o, H' b = some o ∧ ntup o = true) : SR I W K σ H' ρ ∧ Ex W H H' ∧ Lkd W.L H' := by
  have lk : Lkd W.L H' := fun b u e => by
    obtain ⟨m, q⟩ := S.lkd b u e
    refine ⟨m, h b _ q fun z => ?_⟩
    rw [ok.lbx b z] at e; cases e
  have e : Ex W H H' := fun b o q n => by
    cases el : W.L.lookup b with
    | none => rw [unl_none el] at q ⊢; exact h b o q n
    | some u => rw [unl_some el] at q ⊢; exact q
  refine ⟨S.step ok e lk (fun p hp => ?_) fun b hx => ?_, e, lk⟩
  · refine ok.bkst H' _ _ _ ?_ ?_ (hb p hp)
    · rw [unl_none (ok.lbx _ ⟨p, hp, .inl rfl⟩)]
    · rw [unl_none (ok.lbx _ ⟨p, hp, .inr rfl⟩)]
  · rw [unl_none (ok.lbx b hx)]; exact ht b hx
theorem SR.avtA (S : SR I W K σ H ρ) : ∀ b, avA W I.own σ ρ b → ∃ o, H b = some o ∧ ntup o = true := fun b hb => by
  have raw : ∀ o, unl W.L H b = some o → ntup o = true → ∃ o, H b = some o ∧ ntup o = true := fun o h n => by
    cases el : W.L.lookup b with
    | none => rw [unl_none el] at h; exact ⟨o, h, n⟩
    | some u =>
      obtain ⟨m, q⟩ := S.lkd b u el
      refine ⟨_, q, ?_⟩
      obtain ⟨u1, u2⟩ := u
      cases u2 <;> first | rfl | exact False.elim m
  rcases hb with hb | ⟨i, hi, ⟨d, hd⟩, hs⟩
  · obtain ⟨o, h, n⟩ := S.avt b hb; exact raw o h n
  · obtain ⟨a, h1, ow, _⟩ := S.own i d hd hi
    rw [hs] at h1; cases h1
    obtain ⟨u, hu, m⟩ := ow.some
    refine raw u hu ?_
    cases u <;> first | rfl | exact m.elim
end
section
variable {I : SI} {X : Cx} {x : Str} {p pos : Pos} {e : Expr} {es : List Expr} {ma : MA} {k : Nat} {f : Addr} {fd : FuncData} {ps : List Str} {n : Nat} {φ : MF} {bk : BK}
def mCall (n : Nat) (φ : MF) (ma : MA) : ME := fun ρ Q => ma ρ fun ds => ds.length = n ∧ φ ds Q
theorem de_call (F : FnOk X.prog X.w X.K X.mg X.base CX0 k f fd ps (spD X.K n φ)) (hr : Room k X.A) (hg : Gl X x) (hm : X.mg x = some (.ref f)) (hk : PySem.W.keepIn X.K (.ref f) = true) (hb : Binds X.K fd ps []) (ha : DAE I X (e :: es) ma)
    (hdb : (x == ("__debug__" : Str)) = false := by decide) (he : starEach (e :: es) X.env = (false, eval e X.env) :: starEach es X.env := by rfl) (hpl : (backTo pos (starEach es X.env)).any (·.1) = false := by rfl) : DE I X (.Call (.Name x p) (e :: es) [] pos) (mCall n φ ma) :=
  pe_imp (pe_call (E := E0) F hr hg hm hk hb .nil pass0 ha hdb he hpl) fun σ H Q ⟨W, ρ, Qd, ok, S, hm, fin⟩ => ⟨W, ρ, _, ok, S, hm, fun vs H1 ds ⟨hl, q⟩ e1 S1 r => by
    show spD X.K n φ (vs ++ []) H1 Q E0
    rw [List.append_nil]
    refine ⟨_, ds, Qd, r.low S1.lkd, hl, q, S1.avtA, fun v H' d hd keep rr => ?_⟩
    have st : ∀ b, W.bx b → unl W.L H1 b = H' b := fun b hb => by
      obtain ⟨o, ho, _⟩ := S1.avt _ (ok.bxav _ hb)
      have ho' := ho
      rw [unl_none (ok.lbx _ hb)] at ho'
      rw [ho, keep _ _ ho']
    obtain ⟨S2, e2, l2⟩ := S1.called ok (fun b o h _ => keep b o h) (fun p hp => ok.bkst _ _ _ _ (st _ ⟨p, hp, .inl rfl⟩) (st _ ⟨p, hp, .inr rfl⟩) (S1.box p hp)) fun b hx => by
      obtain ⟨o, ho, m⟩ := S1.avt _ (ok.bxav _ hx)
      exact ⟨o, by rw [← st b hx]; exact ho, m⟩
    exact fin v H' d hd (e1.trans e2) S2 (rr.high l2)⟩
theorem de_callB (i : Nat) {bx : Str} {pb : Pos} (hbs : I.bs = some i) (hI : I.bk = bk) (hNb : X.N[i]? = some bx) (hvb : Vis X.env.scope bx) (F : FnOk X.prog X.w X.K X.mg X.base CX0 k f fd ps (spB X.K bk n φ)) (hr : Room k X.A) (hg : Gl X x) (hm : X.mg x = some (.ref f)) (hk : PySem.W.keepIn X.K (.ref f) = true) (hb : Binds X.K fd ps [])
    (ha : DAE I X es ma) (hdb : (x == ("__debug__" : Str)) = false := by decide) (hdb1 : (bx == ("__debug__" : Str)) = false := by decide) (hdb2 : (bx == ("__classdict__" : Str)) = false := by decide)
    (he : starEach (.Name bx pb :: es) X.env = (false, eval (.Name bx pb) X.env) :: starEach es X.env := by rfl) (hpl : (backTo pos (starEach es X.env)).any (·.1) = false := by rfl) : DE I X (.Call (.Name x p) (.Name bx pb :: es) [] pos) (mCall n φ ma) :=
  pe_imp (pe_call (E := E0) F hr hg hm hk hb .nil pass0 (pa_cons (pe_var hNb hvb hdb1 hdb2) ha he) hdb he hpl) fun σ H Q ⟨W, ρ, Qd, ok, S, hm, fin⟩ => by
    obtain ⟨⟨b, c⟩, hp, hs⟩ := S.bsl i hbs
    refine ⟨.ref b, hs, W, ρ, _, ok, S, hm, fun us H1 ds ⟨hl, q⟩ e1 S1 r => ?_⟩
    show spB X.K bk n φ ((.ref b :: us) ++ []) H1 Q E0
    rw [List.append_nil]
    have isb : ∀ x, W.bx x → x = b ∨ x = c := fun x ⟨p, hp', h⟩ => by rw [hp] at hp'; cases hp'; exact h
    have bb : W.bx b := ⟨_, hp, .inl rfl⟩
    have bc : W.bx c := ⟨_, hp, .inr rfl⟩
    have nx : ∀ x, W.bx x → unl W.L H1 x = H1 x := fun x hx => unl_none (ok.lbx x hx)
    have hk1 : bk H1 b c := by rw [← hI]; exact ok.bkst _ _ _ _ (nx b bb) (nx c bc) (S1.box _ hp)
    refine ⟨b, c, _, us, ds, Qd, rfl, r.low S1.lkd, hl, q, S1.avtA, .inl (ok.bxav b bb), .inl (ok.bxav c bc), hk1, fun v H' d hd keep bt hk2 rr => ?_⟩
    obtain ⟨S2, e2, l2⟩ := S1.called ok (fun y o h n => keep y o h (fun z => n (z ▸ bb)) fun z => n (z ▸ bc)) (fun p hp' => by rw [hp] at hp'; cases hp'; rw [hI]; exact hk2) fun y hy => bt y (isb y hy)
    exact fin v H' d hd (e1.trans e2) S2 (rr.high l2)
end
end PyD
namespace PyD
open PySem PySem.Spec L2
open PyProof.Rows hiding St
def DW.lk (W : DW) (a : Addr) (od : Obj) (u : HO) : DW := { W with L := (a, od, u) :: W.L }
section
variable {I : SI} {W : DW} {K : PySem.W.Frag} {σ : St} {ρ : En} {H : Hp} {a : Addr} {od : Obj} {u : HO}
theorem lk_at : (W.lk a od u).L.lookup a = some (od, u) := by show List.lookup a ((a, od, u) :: W.L) = _; simp
theorem lk_ne {b : Addr} (h : b ≠ a) : (W.lk a od u).L.lookup b = W.L.lookup b := by
  show List.lookup b ((a, od, u) :: W.L) = _
  rw [List.lookup_cons]
  have : (b == a) = false := by simpa using h
  rw [this]
theorem lk_unl (nl : W.L.lookup a = none) {H' : Hp} : unl (W.lk a od u).L H' = unl W.L (upd H' a u) := by
  funext b
  by_cases e : b = a
  · subst e; rw [unl_some lk_at, unl_none nl, upd_same]
  · cases q : W.L.lookup b with
    | none => rw [unl_none ((lk_ne e).trans q), unl_none q, upd_ne e]
    | some w => rw [unl_some ((lk_ne e).trans q), unl_some q]
theorem upd_self {H' : Hp} {o : HO} (h : H' a = some o) : upd H' a o = H' := by
  funext b
  by_cases e : b = a
  · subst e; rw [upd_same, h]
  · rw [upd_ne e]
theorem upd_upd {H' : Hp} {o o' : HO} : upd (upd H' a o) a o' = upd H' a o' := by
  funext b
  by_cases e : b = a
  · subst e; rw [upd_same, upd_same]
  · rw [upd_ne e, upd_ne e, upd_ne e]
/-- the thing at a is locked -/
theorem SR.lockW {js : List Nat} (S : SR I W K σ H ρ) (nl : W.L.lookup a = none) (ha : H a = some u) (mu : Mut (some u)) (hj : ∀ i ∈ I.own, (∃ d, ρ[i]? = some (some d)) → σ[i]? = some (some (.ref a)) → i ∈ js) :
    SR (I.lock js) (W.lk a od u) K σ (upd H a (.frz od u)) ρ := by
  have e : unl (W.lk a od u).L (upd H a (.frz od u)) = unl W.L H := by rw [lk_unl nl, upd_upd, upd_self ha]
  refine ⟨S.len, fun b w hw => ?_, fun i d h n => ?_, fun i d h n => ?_, S.inj, ?_, ?_, ?_, S.bsl⟩
  · by_cases q : b = a
    · subst q
      rw [lk_at] at hw; cases hw
      exact ⟨mu, upd_same⟩
    · rw [lk_ne q] at hw
      obtain ⟨m, z⟩ := S.lkd b w hw
      exact ⟨m, by rw [upd_ne q]; exact z⟩
  · rw [e]; exact S.val i d h n
  · rw [e]
    obtain ⟨b, h1, h2, h3, h4, h5⟩ := S.own i d h n
    refine ⟨b, h1, h2, h3, h4, fun z => ?_⟩
    have q : b ≠ a := fun y => z (List.mem_append_left _ (hj i n ⟨d, h⟩ (y ▸ h1)))
    rw [lk_ne q]
    exact h5 fun y => z (List.mem_append_right _ y)
  · rw [e]; exact S.fr
  · rw [e]; exact S.avt
  · rw [e]; exact S.box
theorem WOk.lockW {js : List Nat} (ok : WOk I W) (nb : ¬ W.bx a) : WOk (I.lock js) (W.lk a od u) := ⟨ok.bxav, fun b h => by
  have h : W.bx b := h
  have q : b ≠ a := fun z => nb (z ▸ h)
  rw [lk_ne q]; exact ok.lbx b h, ok.bkst⟩
theorem Lkd.unlockW {H' : Hp} (nl : W.L.lookup a = none) (l : Lkd (W.lk a od u).L H') : Lkd W.L (upd H' a u) := fun b w hw => by
  have q : b ≠ a := fun z => by rw [z, nl] at hw; cases hw
  obtain ⟨m, z⟩ := l b w (by rw [lk_ne q]; exact hw)
  exact ⟨m, by rw [upd_ne q]; exact z⟩
theorem SR.unlockW {js : List Nat} {σ0 : St} {ρ0 : En} {H0 H' : Hp} (nl : W.L.lookup a = none) (S0 : SR I W K σ0 H0 ρ0) (hσ : ∀ i ∈ js, σ[i]? = σ0[i]? ∧ ρ[i]? = ρ0[i]?) (S : SR (I.lock js) (W.lk a od u) K σ H' ρ) : SR I W K σ (upd H' a u) ρ := by
  have e : unl W.L (upd H' a u) = unl (W.lk a od u).L H' := (lk_unl nl).symm
  refine ⟨S.len, S.lkd.unlockW nl, fun i d h n => ?_, fun i d h n => ?_, S.inj, ?_, ?_, ?_, S.bsl⟩
  · rw [e]; exact S.val i d h n
  · rw [e]
    obtain ⟨b, h1, h2, h3, h4, h5⟩ := S.own i d h n
    refine ⟨b, h1, h2, h3, h4, fun z => ?_⟩
    by_cases q : i ∈ js
    · obtain ⟨q1, q2⟩ := hσ i q
      rw [q1] at h1
      rw [q2] at h
      obtain ⟨b', h1', _, _, _, h5'⟩ := S0.own i d h n
      rw [h1] at h1'; cases h1'
      exact h5' z
    · have := h5 fun y => (List.mem_append.mp y).elim q z
      by_cases w : b = a
      · rw [w]; exact nl
      · rw [lk_ne w] at this; exact this
  · rw [e]; exact S.fr
  · rw [e]; exact S.avt
  · rw [e]; exact S.box
end
theorem pe_orLock {X : Cx} {e : Expr} {t : TE} (h : PE X e t) : PE X e (fun σ H Q => t σ H Q ∨ tLockE t σ H Q) := ⟨fun pins s σ H Q I hw => hw.elim (fun q => h.run pins s σ H Q I q) fun q => (pe_lock h).run pins s σ H Q I q⟩
theorem ps_orLock {X : Cx} {st : Stmt} {t : TS} (h : PS X st t) : PS X st (fun D σ H => t D σ H ∨ tLock t D σ H) := ⟨fun pins s σ H D I hw => hw.elim (fun q => h.run pins s σ H D I q) fun q => (ps_lock h).run pins s σ H D I q⟩
/-- slot i holds a dict -/
def hasD (i : Nat) (ρ : En) : Prop := ∃ es, ρ[i]? = some (some (.dict es))
def mLk (i : Nat) (m : ME) : ME := fun ρ Q => hasD i ρ ∧ m ρ Q
def mLkS (i : Nat) (m : MS) : MS := fun M ρ => hasD i ρ ∧ m M ρ
/-- where it stands: it is to be locked, or it is locked -/
theorem dict_at {I : SI} {W : DW} {K : PySem.W.Frag} {σ : St} {ρ : En} {H : Hp} {i : Nat} (ok : WOk I W) (S : SR I W K σ H ρ) (h : hasD i ρ) :
    ∃ a u, σ[i]? = some (some (.ref a)) ∧ ¬ W.bx a ∧ Mut (some u) ∧ ((W.L.lookup a = none ∧ H a = some u) ∨ ∃ o, H a = some (.frz o u)) ∧ (i ∈ I.own ∨ ¬ avA W I.own σ ρ a) := by
  obtain ⟨es, hd⟩ := h
  have fin : ∀ a u, Rd (unl W.L H) a u → Mut (some u) → (W.L.lookup a = none ∧ H a = some u) ∨ ∃ o, H a = some (.frz o u) := fun a u r mu => by
    cases el : W.L.lookup a with
    | none =>
      rcases r with r | ⟨o, r⟩
      · rw [unl_none el] at r; exact .inl ⟨rfl, r⟩
      · rw [unl_none el] at r; exact .inr ⟨o, r⟩
    | some w =>
      obtain ⟨mw, hw⟩ := S.lkd a w el
      rcases r with r | ⟨o, r⟩
      · rw [unl_some el] at r; rw [Option.some.inj r] at hw; exact .inr ⟨_, hw⟩
      · rw [unl_some el] at r; rw [Option.some.inj r] at mw; exact mw.elim
  by_cases ho : i ∈ I.own
  · obtain ⟨a, hs, ow, _⟩ := S.own i _ hd ho
    have nb := S.ownbx ok hd ho hs
    cases ow with
    | dcK r q => exact ⟨a, .dK _, hs, nb, trivial, fin a _ (.inl r) trivial, .inl ho⟩
    | dcT r q => exact ⟨a, .dT _, hs, nb, trivial, fin a _ (.inl r) trivial, .inl ho⟩
  · obtain ⟨v, hs, rv⟩ := S.val i _ hd ho
    cases rv with
    | dcK n r q => exact ⟨_, .dK _, hs, fun z => n (.inl (ok.bxav _ z)), trivial, fin _ _ r trivial, .inr n⟩
    | dcT n r q => exact ⟨_, .dT _, hs, fun z => n (.inl (ok.bxav _ z)), trivial, fin _ _ r trivial, .inr n⟩
/-- the dict in slot i is frozen, whoever froze it -/
def isFz (i : Nat) : PR := fun W σ H => ∃ a o u, σ[i]? = some (some (.ref a)) ∧ Mut (some u) ∧ H a = some (.frz o u)
theorem df_lk {I : SI} {X : Cx} {e : Expr} {m : ME} (i : Nat) (js : List Nat) (hi0 : i ∈ I.own → i ∈ js) (h : DFp (isFz i) (I.lock js) X e m) : DF I X e (mLk i m) :=
  pe_imp (pe_orLock h) fun σ H Q ⟨W, ρ, Qd, ok, S, hm, f⟩ => by
    obtain ⟨hD, hm⟩ := hm
    obtain ⟨a, u, hs, nb, mu, hz | ⟨o, hz⟩, hown⟩ := dict_at ok S hD
    · obtain ⟨nl, hz⟩ := hz
      refine .inr ⟨a, u, hz, mu, fun od => ?_⟩
      have hj : ∀ j ∈ I.own, (∃ d, ρ[j]? = some (some d)) → σ[j]? = some (some (.ref a)) → j ∈ js := fun j hj hd hs' => by
        rcases hown with hi | hi
        · obtain ⟨es, hD⟩ := hD
          rw [S.inj j i a hj hi hd ⟨_, hD⟩ hs' hs]; exact hi0 hi
        · exact absurd (.inr ⟨j, hj, hd, hs'⟩) hi
      have S1 := S.lockW (od := od) nl hz mu hj
      have eU : unl (W.lk a od u).L (upd H a (.frz od u)) = unl W.L H := by rw [lk_unl nl, upd_upd, upd_self hz]
      refine ⟨W.lk a od u, ρ, Qd, ok.lockW nb, S1, ⟨a, od, u, hs, mu, upd_same⟩, hm, fun p H' d q e1 S2 ow nv n0 nlp nf => ?_⟩
      have hfz : H' a = some (.frz od u) := (S2.lkd a _ lk_at).2
      have nlp' : W.L.lookup p = none := by
        by_cases z : p = a
        · rw [z]; exact nl
        · rw [lk_ne z] at nlp; exact nlp
      have eU' : unl (W.lk a od u).L H' = unl W.L (upd H' a u) := lk_unl nl
      have nl' : (W.add p).L.lookup a = none := nl
      have S2' : SR (I.lock js) ((W.add p).lk a od u) X.K σ H' ρ := S2
      refine ⟨hfz, f p _ d q (fun b o hb nbx => ?_) ?_ ?_ nv n0 nlp' ?_⟩
      · rw [← eU']; exact e1 b o (by rw [eU]; exact hb) nbx
      · -- the names as they were
        refine ⟨S2.len, S2'.lkd.unlockW nl', fun j d hd n => ?_, fun j d hd n => ?_, S2.inj, ?_, ?_, ?_, S2.bsl⟩
        · rw [show unl (W.add p).L (upd H' a u) = unl (W.lk a od u).L H' from eU'.symm]; exact S2.val j d hd n
        · rw [show unl (W.add p).L (upd H' a u) = unl (W.lk a od u).L H' from eU'.symm]
          obtain ⟨b, h1, h2, h3, h4, h5⟩ := S2.own j d hd n
          obtain ⟨b', h1', _, _, _, h5'⟩ := S.own j d hd n
          rw [h1] at h1'; cases h1'
          exact ⟨b, h1, h2, h3, h4, h5'⟩
        · rw [show unl (W.add p).L (upd H' a u) = unl (W.lk a od u).L H' from eU'.symm]; exact S2.fr
        · rw [show unl (W.add p).L (upd H' a u) = unl (W.lk a od u).L H' from eU'.symm]; exact S2.avt
        · rw [show unl (W.add p).L (upd H' a u) = unl (W.lk a od u).L H' from eU'.symm]; exact S2.box
      · rw [← eU']; exact ow
      · rw [← eU]; exact nf
    · refine .inl ⟨W, ρ, Qd, ok.lock, S.lock, ⟨a, o, u, hs, mu, hz⟩, hm, fun p H' d q e1 S2 ow nv n0 nlp nf => f p H' d q e1 ?_ ow nv n0 nlp nf⟩
      exact ⟨S2.len, S2.lkd, S2.val, fun j d hd n => by
        obtain ⟨b, h1, h2, h3, h4, h5⟩ := S2.own j d hd n
        obtain ⟨b', h1', _, _, _, h5'⟩ := S.own j d hd n
        rw [h1] at h1'; cases h1'
        exact ⟨b, h1, h2, h3, h4, h5'⟩, S2.inj, S2.fr, S2.avt, S2.box, S2.bsl⟩
theorem ds_lk {I : SI} {X : Cx} {st : Stmt} {m : MS} (i : Nat) (js : List Nat) (hjs : ∀ j ∈ js, j ∈ I.own) (hi0 : i ∈ I.own → i ∈ js) (h : DSp (isFz i) (I.lock js) X st m) : DS I X st (mLkS i m) :=
  ps_imp (ps_orLock h) fun D σ H ⟨W, ρ, M, ok, S, hl, hm, E⟩ => by
    obtain ⟨hD, hm⟩ := hm
    have hl' : ∀ j ∈ (I.lock js).lk, j ∈ (I.lock js).own := fun j hj => (List.mem_append.mp hj).elim (hjs j) (hl j)
    obtain ⟨a, u, hs, nb, mu, hz | ⟨o, hz⟩, hown⟩ := dict_at ok S hD
    · obtain ⟨nl, hz⟩ := hz
      refine .inr ⟨a, u, hz, mu, fun od => ?_⟩
      have hj : ∀ j ∈ I.own, (∃ d, ρ[j]? = some (some d)) → σ[j]? = some (some (.ref a)) → j ∈ js := fun j hj hd hs' => by
        rcases hown with hi | hi
        · obtain ⟨es, hD⟩ := hD
          rw [S.inj j i a hj hi hd ⟨_, hD⟩ hs' hs]; exact hi0 hi
        · exact absurd (.inr ⟨j, hj, hd, hs'⟩) hi
      have S1 := S.lockW (od := od) nl hz mu hj
      have eU : unl (W.lk a od u).L (upd H a (.frz od u)) = unl W.L H := by rw [lk_unl nl, upd_upd, upd_self hz]
      refine ⟨W.lk a od u, ρ, M, ok.lockW nb, S1, ⟨a, od, u, hs, mu, upd_same⟩, hl', hm, ?_⟩
      have bk : ∀ (σ' : St) (H' : Hp) (ρ' : En), SR (I.lock js) (W.lk a od u) X.K σ' H' ρ' → Kp (I.lock js) (W.lk a od u) σ ρ (upd H a (.frz od u)) σ' ρ' H' → H' a = some (.frz od u) ∧ SR I W X.K σ' (upd H' a u) ρ' ∧ Kp I W σ ρ H σ' ρ' (upd H' a u) := fun σ' H' ρ' S2 k2 => by
        refine ⟨(S2.lkd a _ lk_at).2, SR.unlockW nl S (fun j hj => ?_) S2, fun b o n hb => ?_, fun j hj => ?_⟩
        · obtain ⟨q1, q2, _⟩ := k2.lk j (List.mem_append_left _ hj); exact ⟨q2, q1⟩
        · have := k2.st b o n (by rw [eU]; exact hb)
          rw [lk_unl nl] at this; exact this
        · obtain ⟨q1, q2, q3⟩ := k2.lk j (List.mem_append_right _ hj)
          refine ⟨q1, q2, fun hd b hb => ?_⟩
          have := q3 hd b hb
          rw [eU, lk_unl nl] at this; exact this
      refine ⟨fun σ' H' ρ' hn S2 k2 => ?_, fun v H' d hr ro => ?_, fun σ' H' ρ' hn S2 k2 => ?_, fun σ' H' ρ' hn S2 k2 => ?_⟩
      · obtain ⟨q1, q2, q3⟩ := bk _ _ _ S2 k2; exact ⟨q1, E.nx _ _ _ hn q2 q3⟩
      · have e : unl (W.lk a od u).L H' = unl W.L (upd H' a u) := lk_unl nl
        refine ⟨(ro.lkd a _ lk_at).2, E.rt v _ d hr ⟨?_, ro.lkd.unlockW nl, ?_, ?_, ?_⟩⟩
        · rw [← e]; exact ro.rep
        · rw [← e]; exact ro.fr
        · rw [← e]; exact ro.box
        · rw [← e]; exact ro.bxt
      · obtain ⟨q1, q2, q3⟩ := bk _ _ _ S2 k2; exact ⟨q1, E.bk _ _ _ hn q2 q3⟩
      · obtain ⟨q1, q2, q3⟩ := bk _ _ _ S2 k2; exact ⟨q1, E.ct _ _ _ hn q2 q3⟩
    · refine .inl ⟨W, ρ, M, ok.lock, S.lock, ⟨a, o, u, hs, mu, hz⟩, hl', hm, ?_⟩
      exact ⟨fun σ' H' ρ' hn S2 k2 => E.nx _ _ _ hn (S.unlock k2 S2) k2.unlock, fun v H' d hr ro => E.rt v H' d hr ⟨ro.rep, ro.lkd, ro.fr, ro.box, ro.bxt⟩,
        fun σ' H' ρ' hn S2 k2 => E.bk _ _ _ hn (S.unlock k2 S2) k2.unlock, fun σ' H' ρ' hn S2 k2 => E.ct _ _ _ hn (S.unlock k2 S2) k2.unlock⟩
def keySz : D → Prop
  | .tuple ks => ks.length ≤ sizeLine
  | _ => True
def aKeys (i : Nat) : MA := fun ρ Q => match ρ[i]? with
  | some (some (.dict ((.none, .none) :: es))) => Q (es.map (·.1))
  | some (some (.dict ((.none, .bool true) :: es))) => (∀ p ∈ es, keySz p.1) ∧ Q (es.map (·.1))
  | _ => False
theorem RepK.at {K : PySem.W.Frag} {av : Addr → Prop} {H : Hp} : ∀ {kvs : List (Key × V)} {es : List (D × D)}, RepK K av H kvs es → ∀ {i : Nat} {p : D × D}, es[i]? = some p → ∃ k v, kvs[i]? = some (k, v) ∧ p.1 = keyD k ∧ Rep K av H v p.2
  | _, _, .nil, _, _, h => by simp at h
  | _, _, .cons r t, 0, _, h => by simp at h; subst h; exact ⟨_, _, rfl, rfl, r⟩
  | _, _, .cons r t, i + 1, _, h => by
    obtain ⟨k, v, h1, h2⟩ := RepK.at t (i := i) (by simpa using h)
    exact ⟨k, v, by simpa using h1, h2⟩
theorem RepT.at {K : PySem.W.Frag} {av : Addr → Prop} {H : Hp} : ∀ {kvs : List (List Key × V)} {es : List (D × D)}, RepT K av H kvs es → ∀ {i : Nat} {p : D × D}, es[i]? = some p → ∃ k v, kvs[i]? = some (k, v) ∧ k ≠ [] ∧ p.1 = .tuple (k.map keyD) ∧ Rep K av H v p.2
  | _, _, .nil, _, _, h => by simp at h
  | _, _, .cons n r t, 0, _, h => by simp at h; subst h; exact ⟨_, _, rfl, n, rfl, r⟩
  | _, _, .cons _ r t, i + 1, _, h => by
    obtain ⟨k, v, h1, h2⟩ := RepT.at t (i := i) (by simpa using h)
    exact ⟨k, v, by simpa using h1, h2⟩
section
variable {I : SI} {W : DW} {K : PySem.W.Frag} {σ : St} {ρ : En} {H : Hp} {i : Nat} {a : Addr} {o : Obj} {u w : HO}
theorem fz_is (S : SR I W K σ H ρ) (hz : H a = some (.frz o u)) (r : Rd (unl W.L H) a w) (hw : nf w = true) : u = w := by
  rcases S.lkd.rd r with r | ⟨o', r⟩
  · rw [hz] at r; cases r; simp [nf] at hw
  · rw [hz] at r; cases r; rfl
/-- a frozen thing stays -/
theorem fz_keep (S : SR I W K σ H ρ) (hz : H a = some (.frz o u)) (mu : Mut (some u)) (n : i ∈ I.own → False ∨ unl W.L H a = some u) (nav : i ∈ I.own ∨ ¬ avA W I.own σ ρ a) :
    ∃ objs : List (Addr × HO), (∀ p ∈ objs, unl W.L H p.1 = some p.2 ∧ (¬ avA W I.own σ ρ p.1 ∨ ∃ i ∈ I.lk, σ[i]? = some (some (.ref p.1)) ∧ ∃ d, ρ[i]? = some (some d))) ∧ ∀ H', Lkd W.L H' → (∀ p ∈ objs, unl W.L H' p.1 = some p.2) → H' a = some (.frz o u) := by
  cases el : W.L.lookup a with
  | some q =>
    obtain ⟨m, hq⟩ := S.lkd a q el
    rw [hz] at hq
    obtain ⟨q1, q2⟩ := q
    cases hq
    exact ⟨[], (fun p hp => nomatch hp), fun H' l _ => (l a _ el).2⟩
  | none =>
    have hU : unl W.L H a = some (.frz o u) := by rw [unl_none el]; exact hz
    refine ⟨[(a, .frz o u)], fun p hp => ?_, fun H' l h => ?_⟩
    · rw [List.mem_singleton] at hp; subst hp
      refine ⟨hU, .inl ?_⟩
      rcases nav with z | z
      · rcases n z with q | q
        · exact q.elim
        · rw [hU] at q; rw [← Option.some.inj q] at mu; exact mu.elim
      · exact z
    · have := h _ (List.mem_singleton.mpr rfl)
      rw [unl_none el] at this; exact this
theorem slot_dict {d : D} (ok : WOk I W) (S : SR I W K σ H ρ) (hd : ρ[i]? = some (some d)) (hs : σ[i]? = some (some (.ref a))) : (Top K W.bx (avA W I.own σ ρ) (unl W.L H) (.ref a) d) ∧ (i ∈ I.own → ∃ w, unl W.L H a = some w ∧ Mut (some w)) ∧ (i ∈ I.own ∨ Rep K (avA W I.own σ ρ) (unl W.L H) (.ref a) d) := by
  by_cases ho : i ∈ I.own
  · obtain ⟨b, hb, ow, _⟩ := S.own i d hd ho
    rw [hs] at hb; cases hb
    exact ⟨ow.top (S.ownbx ok hd ho hs), fun _ => ow.some, .inl ho⟩
  · obtain ⟨v, hv, r⟩ := S.val i d hd ho
    rw [hs] at hv; cases hv
    exact ⟨.rep r, fun z => absurd z ho, .inr r⟩
end
theorem di_keys {I : SI} {X : Cx} {tg : Expr} {x : Str} {pos : Pos} (i : Nat) (hN : X.N[i]? = some x) (hv : Vis X.env.scope x) (hd : (x == ("__debug__" : Str)) = false := by decide) (hcd : (x == ("__classdict__" : Str)) = false := by decide) : DI (isFz i) I X tg (.Name x pos) (aKeys i) :=
  pi_imp (pi_keys (pe_var hN hv hd hcd)) fun σ H R ⟨W, ρ, Qd, ok, S, ⟨a, o, u, hs, mu, hz⟩, hm, f⟩ => by
    refine ⟨.ref a, hs, a, o, rfl, ?_⟩
    unfold aKeys at hm
    split at hm
    · rename_i es hρ
      obtain ⟨tp, h1, h2⟩ := slot_dict ok S hρ hs
      obtain ⟨a', kvs, ea, r, q⟩ := tp.dictK
      cases ea
      obtain rfl := fz_is S hz r rfl
      obtain ⟨objs, o1, o2⟩ := fz_keep (i := i) S hz mu (fun ho => by obtain ⟨w, hw, mw⟩ := h1 ho; rcases r with r | ⟨o', r⟩; exact .inr r; rw [hw] at r; rw [Option.some.inj r] at mw; exact mw.elim)
        (h2.imp id fun r => by cases r with | dcK n _ _ => exact n)
      refine .inl ⟨kvs, hz, f _ _ _ hm (Ex.refl W H) S ⟨objs, o1, fun H' av' l hp c tv j => ⟨fun d hd => ?_, fun h => ⟨o2 H' l hp, by rw [q.len]; rw [List.length_map] at h; exact h⟩⟩⟩⟩
      rw [List.getElem?_map, Option.map_eq_some_iff] at hd
      obtain ⟨p, hp1, rfl⟩ := hd
      obtain ⟨k, v, hk, e1, rv⟩ := q.at hp1
      refine ⟨⟨o2 H' l hp, (List.getElem?_eq_some_iff.mp hk).1⟩, fun y H'' ⟨e2, k', v', hk', e3⟩ => ?_⟩
      rw [hk] at hk'; cases hk'
      exact .inl ⟨e2, by rw [e3, e1]; exact keyRep k⟩
    · rename_i es hρ
      obtain ⟨tp, h1, h2⟩ := slot_dict ok S hρ hs
      obtain ⟨a', kvs, ea, r, q⟩ := tp.dictT
      cases ea
      obtain rfl := fz_is S hz r rfl
      obtain ⟨objs, o1, o2⟩ := fz_keep (i := i) S hz mu (fun ho => by obtain ⟨w, hw, mw⟩ := h1 ho; rcases r with r | ⟨o', r⟩; exact .inr r; rw [hw] at r; rw [Option.some.inj r] at mw; exact mw.elim)
        (h2.imp id fun r => by cases r with | dcT n _ _ => exact n)
      refine .inr ⟨kvs, hz, f _ _ _ hm.2 (Ex.refl W H) S ⟨objs, o1, fun H' av' l hp c tv j => ⟨fun d hd => ?_, fun h => ⟨o2 H' l hp, by rw [q.len]; rw [List.length_map] at h; exact h⟩⟩⟩⟩
      rw [List.getElem?_map, Option.map_eq_some_iff] at hd
      obtain ⟨p, hp1, rfl⟩ := hd
      obtain ⟨k, v, hk, hn, e1, rv⟩ := q.at hp1
      have hsz := hm.1 p (List.mem_of_getElem? hp1)
      rw [e1] at hsz
      refine ⟨⟨o2 H' l hp, (List.getElem?_eq_some_iff.mp hk).1⟩, fun y H'' ⟨e2, k', v', b, hk', e3, hb⟩ => ?_⟩
      rw [hk] at hk'; cases hk'
      have hb' := l.unt hb
      refine .inl ⟨e2, ?_⟩
      rw [e3, e1]
      exact .tup (tv b _ hb') ⟨{ cls := .none, data := .fields #[] }, rfl, by rw [tupH_key hn]; exact hb'⟩ (by rw [List.length_map]; simpa [keySz] using hsz) (keysRep k)
    · exact hm.elim
end PyD
namespace PyD
open PySem PySem.Spec L2
open PyProof.Rows hiding St
def tyN : D → Option String
  | .none => some "NoneType"
  | .bool _ => some "bool"
  | .int _ => some "int"
  | .str _ => some "str"
  | .list _ => some "list"
  | .tuple _ => some "tuple"
  | .dict ((.none, .none) :: _) => some "dict"
  | _ => none
def isaB (a b : String) : Bool := a == b || (a == "bool" && b == "int")
theorem kit_all : ∀ a ∈ ["NoneType", "bool", "int", "str", "list", "tuple", "dict"], ∀ b ∈ ["tuple", "list", "bool", "int", "str", "dict"], kitB a b = some (isaB a b) := by decide +kernel
def pIsa (T : String) (d : D) (Q : D → Prop) : Prop := match tyN d with
  | some a => Q (.bool (isaB a T))
  | none => False
section
variable {I : SI} {X : Cx} {e : Expr} {m : ME} {pos p p2 : Pos} {T : Str}
theorem de_isa {N : String} (hT : N ∈ ["tuple", "list", "bool", "int", "str", "dict"]) (h : DB I X e m) (hg : Gl X "isinstance") (hm : X.mg "isinstance" = none) (hgT : Gl X T) (hmT : X.mg T = none) (hvT : bootBuiltins T = some (.type N)) (hn : T ≠ "__name__" := by decide) (hdb : (T == ("__debug__" : Str)) = false := by decide)
    (he : starEach [e, .Name T p2] X.env = (false, eval e X.env) :: starEach [.Name T p2] X.env := by rfl) (he2 : starEach [.Name T p2] X.env = (false, eval (.Name T p2) X.env) :: starEach [] X.env := by rfl) (hpl : (backTo pos (starEach [.Name T p2] X.env)).any (·.1) = false := by rfl) :
    DE I X (.Call (.Name "isinstance" p) [e, .Name T p2] [] pos) (m1 (pIsa N) m) :=
  pe_imp (pe_callB call_isi hg hm boot_isinstance (pa_cons h (pa_cons (pe_bltn (v := .ty N) hgT hmT hvT rfl hn hdb) pa_nil he2) he) (by decide) (by decide) he hpl) fun σ H Q ⟨W, ρ, Qd, ok, S, hm, f⟩ => ⟨W, ρ, _, ok, S, hm, fun v H1 d q e1 S1 t => by
    unfold pIsa at q
    split at q
    · rename_i a ha
      have fin : ∀ (mem : a ∈ ["NoneType", "bool", "int", "str", "list", "tuple", "dict"]), TyX X.K H1 v (.type a) → rIsi X.K [v, .ty N] H1 Q := fun mem ty =>
        ⟨v, .ty N, .type a, .type N, isaB a N, rfl, .ty N, ty, kit_ty (kit_all a mem N hT), f _ H1 _ q e1 S1 (.bl _)⟩
      unfold tyN at ha
      split at ha <;> cases ha
      · cases t.none; exact fin (by decide) (.base .non)
      · cases t.bool; exact fin (by decide) (.base (.bl _))
      · cases t.int; exact fin (by decide) (.base (.int _))
      · cases t.str; exact fin (by decide) (.base (.str _))
      · obtain ⟨b, xs, rfl, r, _, _⟩ := t.list
        rcases S1.lkd.rd r with r | ⟨o, r⟩
        · exact fin (by decide) (.base (.lst r))
        · exact fin (by decide) (.base (.frz r))
      · obtain ⟨b, xs, rfl, r, _, _⟩ := t.tuple
        rcases r with r | ⟨o, its, n, hk, hc, _⟩
        · rcases (S1.lkd.tR r).rd with r | ⟨o, r⟩
          · exact fin (by decide) (.base (.tup r))
          · exact fin (by decide) (.fTuple r)
        · exact fin (by decide) (.kTuple hk hc)
      · obtain ⟨b, kvs, rfl, r, _⟩ := t.dictK
        rcases S1.lkd.rd r with r | ⟨o, r⟩
        · exact fin (by decide) (.base (.dK r))
        · exact fin (by decide) (.fDict r)
    · exact q.elim⟩
def truD (d : D) (Q : Bool → Prop) : Prop := match d with
  | .int i => Q (i != 0)
  | .bool b => Q b
  | .none => Q false
  | .list ds => Q (!ds.isEmpty)
  | .tuple ds => Q (!ds.isEmpty)
  | .str x => x.length ≤ sizeLine ∧ Q ((x.length : Int) != 0)
  | _ => False
def tTru (m : ME) : MT := fun ρ Q => m ρ fun d => truD d Q
theorem dt_tru (h : DB I X e m) (he : ∀ whole, isTrue e X.env whole = (do let v ← whole; standAt e.pos; holding [v] (truthy v)) := by intro _; rfl) : DT I X e (tTru m) :=
  pt_imp (pt_truth h he) fun σ H Q ⟨W, ρ, Qd, ok, S, hm, f⟩ => ⟨W, ρ, _, ok, S, hm, fun v H1 d q e1 S1 t => by
    unfold truD at q
    split at q
    · cases t.int; exact ⟨_, rfl, f _ _ q e1 S1⟩
    · cases t.bool; exact ⟨_, rfl, f _ _ q e1 S1⟩
    · cases t.none; exact ⟨_, rfl, f _ _ q e1 S1⟩
    · obtain ⟨b, xs, rfl, r, _, ra⟩ := t.list
      exact ⟨_, .inl ⟨xs, S1.sqL r, rfl⟩, f _ _ (by cases ra <;> exact q) e1 S1⟩
    · obtain ⟨b, xs, rfl, r, _, ra⟩ := t.tuple
      exact ⟨_, .inr (.inl ⟨xs, S1.sqT r, rfl⟩), f _ _ (by cases ra <;> exact q) e1 S1⟩
    · cases t.str; exact ⟨_, ⟨q.1, rfl⟩, f _ _ q.2 e1 S1⟩
    · exact q.elim⟩
end
abbrev MO := En → (Option Int → Prop) → Prop
def tO (I : SI) (K : PySem.W.Frag) (m : MO) : TO := fun σ H Q => ∃ W ρ Qo, WOk I W ∧ SR I W K σ H ρ ∧ m ρ Qo ∧ ∀ o H', Qo o → Ex W H H' → SR I W K σ H' ρ → Q o H'
def DO (I : SI) (X : Cx) (e : Option Expr) (m : MO) : Prop := PO X e (tO I X.K m)
theorem po_imp {X : Cx} {e : Option Expr} {t t' : TO} (h : PO X e t) (k : ∀ σ H Q, t' σ H Q → t σ H Q) : PO X e t' := ⟨fun pins s σ H Q I q => h.run pins s σ H Q I (k _ _ _ q)⟩
def oNone : MO := fun _ Q => Q none
def oSome (m : ME) : MO := fun ρ Q => m ρ fun d => match d with
  | .int i => Q (some i)
  | _ => False
def cutD (ds : List D) (lo hi : Option Int) : List D := (ds.drop (HT.sIx ds.length 0 lo)).take (HT.sIx ds.length ds.length hi - HT.sIx ds.length 0 lo)
def slD (d : D) (a b : Option Int) (Q : D → Prop) : Prop := match d with
  | .list ds => Q (.list (cutD ds a b))
  | .tuple ds => Q (.tuple (cutD ds a b))
  | .str x => x.length ≤ sizeLine ∧ Q (.str (cutS x a b))
  | _ => False
def pSl (m : ME) (l h : MO) : ME := fun ρ Q => m ρ fun d => l ρ fun a => h ρ fun b => slD d a b Q
def pSlL (m : ME) (l h : MO) : ME := fun ρ Q => m ρ fun d => l ρ fun a => h ρ fun b => match d with
  | .list ds => Q (.list (cutD ds a b))
  | _ => False
section
variable {I : SI} {X : Cx} {e : Expr} {m : ME} {pos p p2 : Pos} {lo hi : Option Expr} {ml mh : MO}
theorem do_none : DO I X none oNone := po_imp po_none fun σ H Q ⟨W, ρ, Qo, ok, S, hm, f⟩ => f none H hm (Ex.refl W H) S
theorem do_some (h : DE I X e m) : DO I X (some e) (oSome m) := po_imp (po_some h) fun σ H Q ⟨W, ρ, Qo, ok, S, hm, f⟩ => ⟨W, ρ, _, ok, S, hm, fun v H1 d q e1 S1 r => by
  cases d <;> try exact False.elim q
  cases r
  exact ⟨_, rfl, f _ _ q e1 S1⟩⟩
theorem RepA.cut {K : PySem.W.Frag} {av : Addr → Prop} {H : Hp} {xs : List V} {ds : List D} (r : RepA K av H xs ds) (a b : Option Int) : RepA K av H (cutV xs a b) (cutD ds a b) := by
  unfold cutV cutD
  rw [r.len]
  exact (r.drop _).take _
theorem cut_whole {xs : List V} {ds : List D} (h : xs.length = ds.length) {a b : Option Int} (w : HT.sIx xs.length 0 a = 0 ∧ HT.sIx xs.length xs.length b = xs.length) : cutD ds a b = ds := by
  unfold cutD
  rw [← h, w.1, w.2, List.drop_zero, Nat.sub_zero, h, List.take_length]
theorem df_slL (he : DB I X e m) (hl : DO I X lo ml) (hh : DO I X hi mh) : DF I X (.Subscript e (.Slice lo hi none p2) pos) (pSlL m ml mh) :=
  pe_imp (pe_slice sl_list he hl hh) fun σ H Q ⟨W, ρ, Qd, ok, S, hm, f⟩ => ⟨W, ρ, _, ok, S, hm, fun v H1 d q e1 S1 t => ⟨W, ρ, _, ok, S1, q, fun a H2 q e2 S2 => ⟨W, ρ, _, ok, S2, q, fun b H3 q e3 S3 => by
    cases d <;> try exact False.elim q
    have t3 := t.mono (fun c u hn hb hr => e3.rd (e2.rd hr hb) hb) ((e2.trans e3).keep ok)
    obtain ⟨c, xs, rfl, r, z, ra⟩ := t3.list
    refine ⟨c, xs, rfl, S3.sqL r, fun p hp => ((f.ex ok e1).ex ok (e2.trans e3)).newL ok S3 hp ?_ (ra.cut a b) q⟩
    exact Nat.le_trans (cutV_length xs a b) z⟩⟩⟩
theorem de_sl (he : DE I X e m) (hl : DO I X lo ml) (hh : DO I X hi mh) : DE I X (.Subscript e (.Slice lo hi none p2) pos) (pSl m ml mh) :=
  pe_imp (pe_slice (SlR.or sl_list (SlR.or sl_tupH sl_str)) he hl hh) fun σ H Q ⟨W, ρ, Qd, ok, S, hm, f⟩ => ⟨W, ρ, _, ok, S, hm, fun v H1 d q e1 S1 t => ⟨W, ρ, _, ok, S1, q, fun a H2 q e2 S2 => ⟨W, ρ, _, ok, S2, q, fun b H3 q e3 S3 => by
    have t3 := (e2.trans e3).rep ok t
    have f3 := (f.ex e1).ex (e2.trans e3)
    cases d <;> try exact False.elim q
    · cases t3
      exact .inr (.inr ⟨_, rfl, q.1, f3.here S3 (.str _) q.2⟩)
    · obtain ⟨c, xs, rfl, r, z, ra⟩ := (Top.rep (bx := W.bx) t3).list
      refine .inl ⟨c, xs, rfl, S3.sqL r, fun p hp => f3.newL ok S3 hp ?_ (ra.cut a b) q⟩
      exact Nat.le_trans (cutV_length xs a b) z
    · obtain ⟨c, xs, rfl, r, z, ra⟩ := (Top.rep (bx := W.bx) t3).tuple
      refine .inr (.inl ⟨c, xs, rfl, S3.sqT r, fun w => ?_, fun _ p o hp ho => f3.newT ok S3 ho hp ?_ (ra.cut a b) q⟩)
      · have q' : Qd (.tuple (cutD _ a b)) := q
        rw [cut_whole ra.len w] at q'
        exact f3.here S3 t3 q'
      · exact Nat.le_trans (cutV_length xs a b) z⟩⟩⟩
end
/-- the pairs in a row: keys and values in turn -/
def pairsD : List D → Option (List (D × D))
  | [] => some []
  | k :: v :: r => (pairsD r).map ((k, v) :: ·)
  | _ => none
def mergeD (es ps : List (D × D)) : List (D × D) := ps.foldl (fun acc p => dput acc p.1 p.2) es
def tPr (I : SI) (K : PySem.W.Frag) (m : MA) : List (TE × TE) → Prop := fun trs => ∀ σ H Q, (∃ W ρ Qd, WOk I W ∧ SR I W K σ H ρ ∧ m ρ Qd ∧ ∀ vs H' ds, Qd ds → Ex W H H' → SR I W K σ H' ρ → RepA K (avA W I.own σ ρ) (unl W.L H') (vs.flatMap fun p => [p.1, p.2]) ds → Q vs H') → tPairs trs σ H Q
def DPr (I : SI) (X : Cx) (pos : Pos) (keys : List (Option Expr)) (values : List Expr) (m : MA) : Prop := ∃ trs, PPs X pos keys values trs ∧ tPr I X.K m trs
section
variable {I : SI} {X : Cx} {e k v : Expr} {mk mv : ME} {mr : MA} {pos : Pos} {keys : List (Option Expr)} {values : List Expr}
theorem dpr_nil : DPr I X pos [] [] aNil := ⟨[], pps_nil, fun σ H Q ⟨W, ρ, Qd, ok, S, hm, f⟩ => f [] H [] hm (Ex.refl W H) S .nil⟩
theorem dpr_cons (hk : DE I X k mk) (hv : DE I X v mv) (hr : DPr I X pos keys values mr) : DPr I X pos (some k :: keys) (v :: values) (aCons mk (aCons mv mr)) := by
  obtain ⟨trs, hp, ht⟩ := hr
  refine ⟨_, pps_cons hk hv hp, fun σ H Q ⟨W, ρ, Qd, ok, S, hm, f⟩ => ?_⟩
  refine ⟨W, ρ, _, ok, S, hm, fun x H1 d1 q1 e1 S1 r1 => ⟨W, ρ, _, ok, S1, q1, fun y H2 d2 q2 e2 S2 r2 => ht _ _ _ ⟨W, ρ, _, ok, S2, q2, fun vs H3 ds q3 e3 S3 r3 => ?_⟩⟩⟩
  exact f _ H3 _ q3 (e1.trans (e2.trans e3)) S3 (.cons ((e2.trans e3).rep ok r1) (.cons (e3.rep ok r2) r3))
theorem pairs_of {K : PySem.W.Frag} {av : Addr → Prop} {H : Hp} : ∀ {vs : List (V × V)} {ds : List D} {es : List (D × D)}, RepA K av H (vs.flatMap fun p => [p.1, p.2]) ds → pairsD ds = some es → es.all (fun p => isKeyK p.1) = true →
    ∃ kvs : List (Key × V), vs = kvs.map (fun kv => (kV kv.1, kv.2)) ∧ RepK K av H kvs es
  | [], _, es, r, h, _ => by
    cases r
    cases h
    exact ⟨[], rfl, .nil⟩
  | (x, y) :: vs, _, es, r, h, hk => by
    cases r with | cons r1 r => cases r with | cons r2 r =>
    unfold pairsD at h
    rw [Option.map_eq_some_iff] at h
    obtain ⟨es', h', rfl⟩ := h
    rw [List.all_cons, Bool.and_eq_true] at hk
    obtain ⟨k, hk1⟩ := isKeyK_of hk.1
    obtain ⟨kvs, e1, r'⟩ := pairs_of r h' hk.2
    simp only at hk1
    subst hk1
    refine ⟨(k, y) :: kvs, ?_, .cons r2 r'⟩
    have ex : x = kV k := r1.key
    rw [List.map_cons, ← e1, ex]
theorem RepK.merge {K : PySem.W.Frag} {av : Addr → Prop} {H : Hp} : ∀ {kvs : List (Key × V)} {es : List (D × D)}, RepK K av H kvs es → ∀ {a : List (Key × V)} {b : List (D × D)}, RepK K av H a b → RepK K av H (mergeK a kvs) (mergeD b es)
  | _, _, .nil, _, _, h => h
  | _, _, .cons r t, _, _, h => RepK.merge t (RepK.put r h)
def pDisp (m : MA) : ME := fun ρ Q => m ρ fun ds => match pairsD ds with
  | some es => es.all (fun p => isKeyK p.1) = true ∧ es.length ≤ 15 ∧ Q (dK (mergeD [] es))
  | none => False
/-- {k: v, ..} with int or str keys -/
theorem df_disp (h : DPr I X pos keys values mr) (hall : keys.all (·.isSome) = true := by rfl) (hl : keys.length = values.length := by rfl) (h0 : keys ≠ [] := by intro z; cases z) (h15 : keys.length ≤ 15 := by decide) : DF I X (.Dict keys values pos) (pDisp mr) := by
  obtain ⟨trs, hp, ht⟩ := h
  refine pe_imp (pe_disp hp hall hl h0 h15) fun σ H Q ⟨W, ρ, Qd, ok, S, hm, f⟩ p hn => ?_
  have nl : W.L.lookup p = none := S.lkd.free hn
  have ok1 : WOk I (W.add p) := ok.add p nl
  have S1 : SR I (W.add p) X.K σ (upd H p (.dK [])) ρ := S.newAdd ok hn rfl
  have nav : ¬ W.av p := fun z => S.fresh hn (.inl z)
  have nbx : ¬ W.bx p := fun z => nav (ok.bxav p z)
  have nU : unl W.L H p = none := S.freshU hn
  have n0 : W.H0 p = none := by
    cases h : W.H0 p with
    | none => rfl
    | some o => have := S.fr p o h nbx; rw [nU] at this; cases this
  refine ht _ _ _ ⟨W.add p, ρ, _, ok1, S1, hm, fun vs H' ds q e1 S2 r => ?_⟩
  have hU : unl W.L (upd H p (.dK [])) p = some (.dK []) := by rw [unl_upd nl, upd_same]
  have hp' : H' p = some (.dK []) := by
    have := e1 p _ hU nbx
    rw [show unl (W.add p).L H' p = H' p from unl_none nl] at this; exact this
  refine ⟨hp', ?_⟩
  split at q
  · rename_i es he
    obtain ⟨hk, hlen, hq⟩ := q
    obtain ⟨kvs, rfl, rk⟩ := pairs_of r he hk
    refine ⟨kvs, rfl, by rw [rk.len]; exact hlen, f p _ _ hq (fun b o hb n => ?_) (S2.wrAv ok1 (.inr rfl) nbx n0 nl rfl) (.dcK (by rw [unl_upd nl, upd_same]) (RepK.merge (kvs := kvs) ?_ .nil)) nav n0 nl nU⟩
    · have hbp : b ≠ p := fun z => by rw [z, nU] at hb; cases hb
      rw [unl_upd nl, upd_ne hbp]
      exact e1 b o (by rw [show (W.add p).L = W.L from rfl, unl_upd nl, upd_ne hbp]; exact hb) n
    · have c : Cm (avA (W.add p) I.own σ ρ) (avA (W.add p) I.own σ ρ) (unl W.L H') (unl W.L (upd H' p (.dK (mergeK [] kvs)))) := by
        have ne : ∀ b, ¬ avA (W.add p) I.own σ ρ b → b ≠ p := fun b n z => n (.inl (.inr z))
        exact ⟨fun _ _ n _ => n, fun b u _ n r => by rw [unl_upd nl]; exact rd_up r fun o h => by rw [upd_ne (ne b n)]; exact h, fun b xs n r => by rw [unl_upd nl, upd_ne (ne b n)]; exact r⟩
      exact RepK.mono c rk
  · exact q.elim
end
end PyD
namespace PyD
open PySem PySem.Spec L2
open PyProof.Rows hiding St
def pairOf : D → Option (D × D)
  | .tuple [k, v] => some (k, v)
  | _ => none
def pairsOf : List D → Option (List (D × D))
  | [] => some []
  | d :: r => match pairOf d, pairsOf r with
    | some p, some es => some (p :: es)
    | _, _ => none
def pDictP : List D → (D → Prop) → Prop
  | [.list ds], Q => match pairsOf ds with
    | some es => es.all (fun p => isKeyK p.1) = true ∧ Q (dK (mergeD [] es))
    | none => False
  | [.tuple ds], Q => match pairsOf ds with
    | some es => es.all (fun p => isKeyK p.1) = true ∧ Q (dK (mergeD [] es))
    | none => False
  | [.dict ((.none, .none) :: es)], Q => Q (dK es)
  | _, _ => False
theorem pairOf_is {d : D} {p : D × D} (h : pairOf d = some p) : d = .tuple [p.1, p.2] := by
  unfold pairOf at h
  split at h
  · cases h; rfl
  · cases h
theorem pairsOf_rep {K : PySem.W.Frag} {av : Addr → Prop} {L : List (Addr × Obj × HO)} {H : Hp} (l : Lkd L H) : ∀ {xs : List V} {ds : List D} {es : List (D × D)}, RepA K av (unl L H) xs ds → pairsOf ds = some es → es.all (fun p => isKeyK p.1) = true →
    ∃ (ps : List Addr) (kvs : List (Key × V)), xs = ps.map V.ref ∧ Paired (fun p kv => SqT K H p [kV kv.1, kv.2]) ps kvs ∧ RepK K av (unl L H) kvs es
  | _, [], es, r, h, _ => by
    cases r
    cases h
    exact ⟨[], [], rfl, .nil, .nil⟩
  | _, d :: ds, es, r, h, hk => by
    cases r with | cons r1 r =>
    unfold pairsOf at h
    split at h
    · rename_i p es' h1 h2
      cases h
      rw [List.all_cons, Bool.and_eq_true] at hk
      obtain ⟨k, hk1⟩ := isKeyK_of hk.1
      obtain ⟨ps, kvs, e1, pr, rk⟩ := pairsOf_rep l r h2 hk.2
      have ed := pairOf_is h1
      obtain ⟨p1, p2⟩ := p
      simp only at hk1 ed
      subst hk1 ed
      cases r1 with | tup n rt z ra =>
      cases ra with | cons ra rb => cases rb with | cons rb rc =>
      cases rc
      have ex := ra.key
      subst ex
      rename_i a w
      refine ⟨a :: ps, (k, _) :: kvs, by rw [e1]; rfl, .cons (.inl (l.tR rt).rd) pr, .cons rb rk⟩
    · cases h
section
variable {X : Cx}
/-- the pairs of a row: their values, their keys -/
theorem pairs_kv {pins : List (Addr × Obj)} {σ : St} {H : Hp} {s : Shared} (Iv : Inv X pins σ H s) : ∀ {ps : List Addr} {kvs : List (Key × V)}, Paired (fun p kv => SqT X.K H p [kV kv.1, kv.2]) ps kvs →
    ∃ (prs : List (Key × Value)) (us : List (Value × Value)), KV kvs prs ∧ prs.length = ps.length ∧ us.length = ps.length ∧
      ∀ (j : Nat) (k v : Value), us[j]? = some (k, v) → ∃ (b : Addr) (kk : Key), ps[j]? = some b ∧ IsTup s.heap b #[k, v] ∧ prs[j]? = some (kk, v) ∧ keyIs kk k = true
  | _, _, .nil => ⟨[], [], .nil, rfl, rfl, fun j k v e => by simp at e⟩
  | _, _, .cons (a := p) (b := kv) h t => by
    obtain ⟨prs, us, r, hl, hl2, hp⟩ := pairs_kv Iv t
    obtain ⟨its, rv, ht, _⟩ := Iv.tuple h
    obtain ⟨u, y, ei, ru, ry⟩ := vals2 rv
    subst ei
    refine ⟨(kv.1, y) :: prs, (u, y) :: us, .cons ⟨rfl, ry⟩ r, by rw [List.length_cons, List.length_cons, hl], by rw [List.length_cons, List.length_cons, hl2], fun j k v e => ?_⟩
    cases j with
    | zero =>
      have e' : (u, y) = (k, v) := Option.some.inj e
      cases e'
      exact ⟨p, kv.1, rfl, ht, rfl, kV_is (P := X.prog) (w := X.w) ru⟩
    | succ j =>
      obtain ⟨b, kk, e1, e2, e3, e4⟩ := hp j k v (by simpa using e)
      exact ⟨b, kk, by simpa using e1, e2, by simpa using e3, e4⟩
def mergeT (kvs more : List (List Key × V)) : List (List Key × V) := more.foldl (fun acc kv => putK acc kv.1 kv.2) kvs
theorem length_putKT {κ : Type} [DecidableEq κ] (kvs : List (κ × V)) (k : κ) (v : V) : (putK kvs k v).length ≤ kvs.length + 1 := by
  unfold putK
  split
  · rw [List.length_map]; omega
  · rw [List.length_append, List.length_singleton]; omega
theorem length_mergeT : ∀ (more kvs : List (List Key × V)), (mergeT kvs more).length ≤ kvs.length + more.length
  | [], kvs => Nat.le_refl _
  | p :: more, kvs => by
    have h1 := length_mergeT more (putK kvs p.1 p.2)
    have h2 := length_putKT kvs p.1 p.2
    show (mergeT (putK kvs p.1 p.2) more).length ≤ _
    rw [List.length_cons]; omega
theorem KT.merge {H : Hp} : ∀ {more : List (List Key × V)} {rs xs : List (List Key × Addr × Value)} {kvs : List (List Key × V)}, KT H more rs → KT H kvs xs → KT H (mergeT kvs more) (PySem.storedAllH xs rs) := by
  intro more rs xs kvs r
  induction r generalizing xs kvs with
  | nil => exact fun h => h
  | @cons p q ps qs h t ih =>
    intro h0
    obtain ⟨h1, h2, h3⟩ := h
    have := ih (KT.put h0 p.1 h2 h3)
    show KT H (mergeT (putK kvs p.1 p.2) ps) (PySem.storedAllH (PySem.storedH xs q.1 q.2.1 q.2.2) qs)
    rw [← h1]; exact this
/-- the same of pairs whose keys are tuples -/
theorem pairs_kt {pins : List (Addr × Obj)} {σ : St} {H : Hp} {s : Shared} (Iv : Inv X pins σ H s) : ∀ {ps : List Addr} {kvs : List (List Key × V)}, Paired (fun p kv => ∃ b, SqT X.K H p [.ref b, kv.2] ∧ H b = some (.tup (kv.1.map kV))) ps kvs →
    ∃ (prs : List (List Key × Addr × Value)) (us : List (Value × Value)), KT H kvs prs ∧ prs.length = ps.length ∧ us.length = ps.length ∧
      ∀ (j : Nat) (k v : Value), us[j]? = some (k, v) → ∃ (b : Addr) (kk : List Key) (c : Addr), ps[j]? = some b ∧ IsTup s.heap b #[k, v] ∧ prs[j]? = some (kk, c, v) ∧ k = .ref c
  | _, _, .nil => ⟨[], [], .nil, rfl, rfl, fun j k v e => by simp at e⟩
  | _, _, .cons (a := p) (b := kv) h t => by
    obtain ⟨prs, us, r, hl, hl2, hp⟩ := pairs_kt Iv t
    obtain ⟨c, h, hc⟩ := h
    obtain ⟨its, rv, ht, _⟩ := Iv.tuple h
    obtain ⟨u, y, ei, ru, ry⟩ := vals2 rv
    subst ei
    cases ru
    refine ⟨(kv.1, c, y) :: prs, (.ref c, y) :: us, .cons ⟨rfl, hc, ry⟩ r, by rw [List.length_cons, List.length_cons, hl], by rw [List.length_cons, List.length_cons, hl2], fun j k v e => ?_⟩
    cases j with
    | zero =>
      have e' : (Value.ref c, y) = (k, v) := Option.some.inj e
      cases e'
      exact ⟨p, kv.1, c, rfl, ht, rfl, rfl⟩
    | succ j =>
      obtain ⟨b, kk, c', e1, e2, e3, e4⟩ := hp j k v (by simpa using e)
      exact ⟨b, kk, c', by simpa using e1, e2, by simpa using e3, e4⟩
theorem items_of {s : Shared} {ps : List Addr} {us : List (Value × Value)} (hl : us.length = ps.length) (h : ∀ (j : Nat) (k v : Value), us[j]? = some (k, v) → ∃ (b : Addr), ps[j]? = some b ∧ IsTup s.heap b #[k, v]) :
    PySem.PairItems s.heap (ps.map Value.ref).toArray (fun j => ps.getD j 0) us := by
  refine ⟨by rw [List.size_toArray, List.length_map, hl], fun j k v e => ?_⟩
  obtain ⟨b, e1, e2⟩ := h j k v e
  have e3 : ps.getD j 0 = b := by rw [List.getD_eq_getElem?_getD, e1]; rfl
  refine ⟨?_, ?_⟩
  · rw [List.getElem?_toArray, List.getElem?_map, e1]; show some (Value.ref b) = some (Value.ref (ps.getD j 0)); rw [e3]
  · show PySem.PairAt s.heap (ps.getD j 0) k v; rw [e3]; exact .inl e2
/-- a tuple whose object is known -/
def TpO (K : PySem.W.Frag) (H : Hp) (a : Addr) (o : Obj) (xs : List V) : Prop := H a = some (.frz o (.tup xs)) ∨ K.lookup a = some o ∧ WrT K a xs
theorem tup_plain {pins : List (Addr × Obj)} {σ : St} {H : Hp} {s : Shared} (Iv : Inv X pins σ H s) {a : Addr} {o : Obj} {ps : List Addr} (h : TpO X.K H a o (ps.map V.ref)) (hd : o.dict = none) :
    PySem.PlainSeq "tuple" s.heap a (ps.map Value.ref).toArray ∧ ps.length ≤ sizeLine := by
  rcases h with h | ⟨h, o', its, n, h', hc, hdat, hz, r⟩
  rotate_left
  · rw [h] at h'; cases h'
    have e : its = (ps.map Value.ref).toArray := by rw [← refs_at r]
    subst e
    exact ⟨⟨o, n, Iv.kIn a o h, hc, hd, hdat⟩, by rw [List.size_toArray, List.length_map] at hz; exact hz⟩
  obtain ⟨g, hz, its, r, o', g', hc, n, hdat⟩ := (show ObjOk X.prog X.w H s.heap a (.frz o (.tup (ps.map V.ref))) from Iv.hok a _ h)
  rw [g] at g'
  cases g'
  rw [refs_at r] at hdat
  exact ⟨⟨o, n, g, hc, hd, hdat⟩, by rw [List.length_map] at hz; exact hz⟩
/-- dict(t) of a tuple of pairs -/
theorem call_dictPt (hcalm : X.calm = true) : CallR X (.type "dict") (fun xs H Q => ∃ (a : Addr) (o : Obj) (ps : List Addr) (kvs : List (Key × V)), xs = [.ref a] ∧ TpO X.K H a o (ps.map V.ref) ∧ o.dict = none ∧ Paired (fun p kv => SqT X.K H p [kV kv.1, kv.2]) ps kvs ∧
    ∀ p, H p = none → Q (.ref p) (upd H p (.dK (mergeK [] kvs)))) := by
  intro pins s σ H xs us Q Iv r q
  obtain ⟨a, o, ps, kvs, ex, hq, hod, hp, q⟩ := q
  subst ex
  obtain ⟨u, eu, rx⟩ := vals1 r
  subst eu
  cases rx
  obtain ⟨pl, hz⟩ := tup_plain Iv hq hod
  obtain ⟨prs, uv, rel, hl, hl2, hpr⟩ := pairs_kv Iv hp
  refine PySem.call_dict_pairs (knd := mixKind X.prog X.w) (kvs := prs) (PySem.PairArg.tuple a (ps.map Value.ref).toArray (fun j => ps.getD j 0) uv) (Iv.ok.hd hcalm)
    ⟨pl, items_of hl2 fun j k v e => let ⟨b, _, e1, e2, _⟩ := hpr j k v e; ⟨b, e1, e2⟩⟩ ⟨by rw [hl, hl2], fun j k v e => let ⟨b, kk, _, _, e3, e4⟩ := hpr j k v e; ⟨kk, e3, e4⟩⟩ (by rw [hl2]; exact hz) fun h' tk hd' k => ?_
  have hm : (s.heap.objs.size == sysModules) = false := beq_eq_false_iff_ne.mpr (Nat.ne_of_gt Iv.big)
  have hlen : (mergeK [] kvs).length ≤ sizeLine := by
    refine Nat.le_trans (length_mergeK kvs []) ?_
    rw [List.length_nil, Nat.zero_add, rel.length, hl]
    exact hz
  exact ⟨.ref s.heap.objs.size, upd H s.heap.objs.size (.dK (mergeK [] kvs)), Iv.laid (t' := tk) (fun b o e => k b o (by simp) e) (Nat.le_refl _) (show ObjOk X.prog X.w _ _ _ (.dK (mergeK [] kvs)) from ⟨hlen, hm, merged [] prs, KV.merge rel .nil, hd'⟩), rfl, q _ (Iv.hok.fresh (Nat.le_refl _))⟩
/-- dict(x) of a list or tuple of pairs whose keys are tuples -/
theorem call_dictPT (hcalm : X.calm = true) (hu : X.A.units + 200 < cLine) : CallR X (.type "dict") (fun xs H Q => ∃ (a : Addr) (ps : List Addr) (kvs : List (List Key × V)), xs = [.ref a] ∧ (SqL X.K H a (ps.map V.ref) ∨ ∃ o, TpO X.K H a o (ps.map V.ref) ∧ o.dict = none) ∧
    Paired (fun p kv => ∃ b, SqT X.K H p [.ref b, kv.2] ∧ H b = some (.tup (kv.1.map kV))) ps kvs ∧
    ∀ p, H p = none → Q (.ref p) (upd H p (.dT (mergeT [] kvs)))) := by
  intro pins s σ H xs us Q Iv r q
  obtain ⟨a, ps, kvs, ex, hq, hp, q⟩ := q
  subst ex
  obtain ⟨u, eu, rx⟩ := vals1 r
  subst eu
  cases rx
  obtain ⟨prs, uv, rel, hl, hl2, hpr⟩ := pairs_kt Iv hp
  have its := items_of hl2 fun j k v e => let ⟨b, _, _, e1, e2, _⟩ := hpr j k v e; ⟨b, e1, e2⟩
  have key : ∀ {P : Program} {T : String} {fp : List Addr} {OK : Heap → Prop}, PySem.PairArg X.prog X.w T a fp [] uv.length (PySem.PairRel uv) OK → OK s.heap → ps.length ≤ sizeLine → wpAny (model X.prog X.w) X.A (call (.type "dict") [.ref a]) (EP X pins σ Q) X.xe s := by
    intro _ T fp OK PA ok hz
    have his : ∀ x ∈ prs, H x.2.1 = some (.tup (x.1.map kV)) := by
      have all : ∀ {l : List (List Key × V)} {m : List (List Key × Addr × Value)}, KT H l m → ∀ x ∈ m, H x.2.1 = some (.tup (x.1.map kV)) := by
        intro l m q
        induction q with
        | nil => intro x hx; cases hx
        | @cons p q ps qs h t ih =>
          intro x hx
          rcases List.mem_cons.mp hx with rfl | hx
          · obtain ⟨e1, e2, _⟩ := h; rw [← e1]; exact e2
          · exact ih x hx
      exact all rel
    refine PySem.call_dict_pairsH (knd := tupleKind (mixKind X.prog X.w)) (ps := prs) PA (Iv.ok.hd hcalm) (tupleKind_room_in1 (by show X.A.units + 1 + 1 < cLine; omega)) ok ⟨by rw [hl, hl2], fun j k v e => let ⟨b, kk, c, _, _, e3, e4⟩ := hpr j k v e; ⟨kk, c, e3, e4⟩⟩ (fun h' hk x hx => ?_) (by rw [hl2]; exact hz) fun h' tk hd' k => ?_
    · have kk := key_of (P := X.prog) (w := X.w) Iv.hok (his x hx)
      obtain ⟨o, items, n, ho, hc, hd, hi⟩ := kk
      exact ⟨o, items, n, hk _ _ (Nat.ne_of_lt (Heap.lt_size ho)) (by simp) ho, hc, hd, hi⟩
    · have hm : (s.heap.objs.size == sysModules) = false := beq_eq_false_iff_ne.mpr (Nat.ne_of_gt Iv.big)
      have hlen : (mergeT [] kvs).length ≤ sizeLine := by
        refine Nat.le_trans (length_mergeT kvs []) ?_
        rw [List.length_nil, Nat.zero_add, Paired.length rel, hl]
        exact hz
      obtain ⟨o, es, ep, g1, g2, g3, g4, g5, g6⟩ := hd'
      have hfr := Iv.hok.fresh (Nat.le_refl s.heap.objs.size)
      have kt : KT (upd H s.heap.objs.size (.dT (mergeT [] kvs))) (mergeT [] kvs) (PySem.storedAllH [] prs) := (KT.merge rel .nil).keeps fun b ys e => by
        rw [upd_ne (ne_of_none e hfr)]; exact e
      exact ⟨.ref s.heap.objs.size, upd H s.heap.objs.size (.dT (mergeT [] kvs)), Iv.laid (t' := tk) (fun b o e => k b o (by simp) e) (Nat.le_refl _) (show ObjOk X.prog X.w _ _ _ (.dT (mergeT [] kvs)) from ⟨hlen, hm, _, kt, o, es, ep, g1, g2, g3, g4, g6⟩), rfl, q _ hfr⟩
  rcases hq with hq | ⟨o, hq, hod⟩
  · obtain ⟨its0, rv, pl, hz⟩ := Iv.list hq
    have ei := refs_at rv
    subst ei
    rw [List.length_map] at hz
    obtain ⟨o, n, ho, hc, hd, hdat⟩ := pl
    exact key (P := X.prog) (PySem.PairArg.list a (ps.map Value.ref).toArray (fun j => ps.getD j 0) uv) ⟨⟨o, n, ho, hc, hd, hdat⟩, its⟩ hz
  · obtain ⟨pl, hz⟩ := tup_plain Iv hq hod
    exact key (P := X.prog) (PySem.PairArg.tuple a (ps.map Value.ref).toArray (fun j => ps.getD j 0) uv) ⟨pl, its⟩ hz
end
theorem pairsOf_repT {K : PySem.W.Frag} {av : Addr → Prop} {L : List (Addr × Obj × HO)} {H : Hp} (l : Lkd L H) : ∀ {xs : List V} {ds : List D} {es : List (D × D)}, RepA K av (unl L H) xs ds → pairsOf ds = some es → es.all (fun p => isKeyT p.1) = true →
    ∃ (ps : List Addr) (kvs : List (List Key × V)), xs = ps.map V.ref ∧ Paired (fun p kv => ∃ b, SqT K H p [.ref b, kv.2] ∧ H b = some (.tup (kv.1.map kV))) ps kvs ∧ RepT K av (unl L H) kvs es
  | _, [], es, r, h, _ => by
    cases r
    cases h
    exact ⟨[], [], rfl, .nil, .nil⟩
  | _, d :: ds, es, r, h, hk => by
    cases r with | cons r1 r =>
    unfold pairsOf at h
    split at h
    · rename_i p es' h1 h2
      cases h
      rw [List.all_cons, Bool.and_eq_true] at hk
      obtain ⟨k, hn, hk1⟩ := isKeyT_of hk.1
      obtain ⟨ps, kvs, e1, pr, rk⟩ := pairsOf_repT l r h2 hk.2
      have ed := pairOf_is h1
      obtain ⟨p1, p2⟩ := p
      simp only at hk1 ed
      subst hk1 ed
      cases r1 with | tup n rt z ra =>
      cases ra with | cons ra rb => cases rb with | cons rb rc =>
      cases rc
      cases ra with | tup n2 rt2 z2 ra2 =>
      rw [ra2.keys] at rt2
      obtain ⟨o2, _, e2⟩ := l.tR rt2
      rw [tupH_key hn] at e2
      refine ⟨_ :: ps, (k, _) :: kvs, by rw [e1]; rfl, .cons ⟨_, .inl (l.tR rt).rd, e2⟩ pr, .cons hn rb rk⟩
    · cases h
theorem RepT.merge {K : PySem.W.Frag} {av : Addr → Prop} {H : Hp} : ∀ {kvs : List (List Key × V)} {es : List (D × D)}, RepT K av H kvs es → ∀ {a : List (List Key × V)} {b : List (D × D)}, RepT K av H a b → RepT K av H (mergeT a kvs) (mergeD b es)
  | _, _, .nil, _, _, h => h
  | _, _, .cons n r t, _, _, h => RepT.merge t (RepT.put n r h)
theorem tupR_refs {K : PySem.W.Frag} {H : Hp} {a : Addr} {ps : List Addr} (h : TupR H a (ps.map V.ref)) : ∃ o, TpO K H a o (ps.map V.ref) ∧ o.dict = none := by
  obtain ⟨o, d, e⟩ := h
  unfold tupH at e
  rw [if_pos (by rw [List.all_map]; exact List.all_eq_true.mpr fun _ _ => rfl)] at e
  exact ⟨o, .inl e, d⟩
theorem r_dictP {X : Cx} (hc : X.calm = true) : RnF X (.type "dict") pDictP := by
  intro I W pins s σ H ρ xs us ds Qd Q Iv ok S rv t hp fin
  unfold pDictP at hp
  split at hp
  · rename_i ds
    obtain ⟨x, rfl, tx⟩ := t.one
    obtain ⟨a, ys, rfl, r, z, ra⟩ := tx.list
    split at hp
    · rename_i es he
      obtain ⟨ps, kvs, rfl, pr, rk⟩ := pairsOf_rep S.lkd ra he hp.1
      refine call_dictP hc _ _ _ _ _ _ _ Iv rv ⟨a, ps, kvs, rfl, S.sqL r, pr, fun p hn => fin.newK ok S hn (RepK.merge rk .nil) hp.2⟩
    · exact hp.elim
  · rename_i ds
    obtain ⟨x, rfl, tx⟩ := t.one
    split at hp
    · rename_i es he
      cases tx with
      | rep tx =>
        cases tx with | tup n r z ra =>
        obtain ⟨ps, kvs, rfl, pr, rk⟩ := pairsOf_rep S.lkd ra he hp.1
        obtain ⟨o, e, d⟩ := tupR_refs (S.lkd.tR r)
        exact call_dictPt hc _ _ _ _ _ _ _ Iv rv ⟨_, o, ps, kvs, rfl, e, d, pr, fun p hn => fin.newK ok S hn (RepK.merge rk .nil) hp.2⟩
      | wrt w z ra hd =>
        obtain ⟨ps, kvs, rfl, pr, rk⟩ := pairsOf_rep S.lkd ra he hp.1
        obtain ⟨o, e, d⟩ := hd
        exact call_dictPt hc _ _ _ _ _ _ _ Iv rv ⟨_, o, ps, kvs, rfl, .inr ⟨e, w⟩, d, pr, fun p hn => fin.newK ok S hn (RepK.merge rk .nil) hp.2⟩
    · exact hp.elim
  · rename_i es
    obtain ⟨x, rfl, tx⟩ := t.one
    obtain ⟨a, kvs, rfl, r, ra⟩ := tx.dictK
    exact call_dictD _ _ _ _ _ _ _ Iv rv ⟨a, kvs, rfl, S.lkd.rd r, fun p hn => fin.newK ok S hn ra hp⟩
  · exact hp.elim
/-- dict(pairs) with keys that are tuples -/
def pDictPT : List D → (D → Prop) → Prop
  | [.list ds], Q => match pairsOf ds with
    | some es => es.all (fun p => isKeyT p.1) = true ∧ Q (dT (mergeD [] es))
    | none => False
  | _, _ => False
theorem r_dictPT {X : Cx} (hc : X.calm = true) (hu : X.A.units + 200 < cLine) : RnF X (.type "dict") pDictPT := by
  intro I W pins s σ H ρ xs us ds Qd Q Iv ok S rv t hp fin
  unfold pDictPT at hp
  split at hp
  · rename_i ds
    obtain ⟨x, rfl, tx⟩ := t.one
    obtain ⟨a, ys, rfl, r, z, ra⟩ := tx.list
    split at hp
    · rename_i es he
      obtain ⟨ps, kvs, rfl, pr, rk⟩ := pairsOf_repT S.lkd ra he hp.1
      refine call_dictPT hc hu _ _ _ _ _ _ _ Iv rv ⟨a, ps, kvs, rfl, .inl (S.sqL r), pr, fun p hn => fin.newTd ok S hn (RepT.merge rk .nil) hp.2⟩
    · exact hp.elim
  · exact hp.elim
end PyD
namespace PyD
open PySem PySem.Spec L2
open PyProof.Rows hiding St
def slotsB (I : SI) : List Nat → List Bool → Bool
  | i :: is, f :: fl => decide (I.bs ≠ some i) && (if f then decide (i ∈ I.own) && decide (i ∉ I.lk) else decide (i ∉ I.own)) && slotsB I is fl
  | [], [] => true
  | _, _ => false
theorem slotsOk {I : SI} : ∀ {is : List Nat} {fl : List Bool}, slotsB I is fl = true → SlotsOk I is fl
  | [], [], _ => trivial
  | i :: is, f :: fl, h => by
    unfold slotsB at h
    rw [Bool.and_eq_true, Bool.and_eq_true] at h
    obtain ⟨⟨h1, h2⟩, h3⟩ := h
    refine ⟨⟨of_decide_eq_true h1, ?_⟩, slotsOk h3⟩
    cases f with
    | true =>
      rw [if_pos rfl] at h2 ⊢
      rw [Bool.and_eq_true] at h2
      exact ⟨of_decide_eq_true h2.1, of_decide_eq_true h2.2⟩
    | false =>
      rw [if_neg Bool.false_ne_true] at h2 ⊢
      exact of_decide_eq_true h2
  | [], _ :: _, h => by cases h
  | _ :: _, [], h => by cases h
section
variable {I : SI} {X : Cx} {x y : Str} {pos pos' pos2 pos3 apos cpos : Pos} {e a b c : Expr} {es : List Expr} {me ma mb mk mi : ME} {mA : MA} {m : MS} {t u : MT}
theorem w_v (i : Nat) (ho : i ∉ I.own := by decide) (hN : X.N[i]? = some x := by rfl) (hv : Vis X.env.scope x := by first | exact Or.inl rfl | exact Or.inr (Or.inl rfl) | exact Or.inr (Or.inr rfl)) (hd : (x == ("__debug__" : Str)) = false := by decide) (hcd : (x == ("__classdict__" : Str)) = false := by decide) : DE I X (.Name x pos) (mV i) := de_var i ho hN hv hd hcd
theorem w_b (i : Nat) (hN : X.N[i]? = some x := by rfl) (hv : Vis X.env.scope x := by first | exact Or.inl rfl | exact Or.inr (Or.inl rfl) | exact Or.inr (Or.inr rfl)) (hd : (x == ("__debug__" : Str)) = false := by decide) (hcd : (x == ("__classdict__" : Str)) = false := by decide) : DB I X (.Name x pos) (mV i) := db_var i hN hv hd hcd
theorem w_q (i : Nat) (ho : i ∈ I.own := by decide) (hk : i ∈ I.lk := by decide) (hN : X.N[i]? = some x := by rfl) (hv : Vis X.env.scope x := by first | exact Or.inl rfl | exact Or.inr (Or.inl rfl) | exact Or.inr (Or.inr rfl)) (hd : (x == ("__debug__" : Str)) = false := by decide) (hcd : (x == ("__classdict__" : Str)) = false := by decide) : DQ I X (.Name x pos) (mV i) := dq_own i ho hk hN hv hd hcd
theorem w_keys {tg : Expr} (i : Nat) (hN : X.N[i]? = some x := by rfl) (hv : Vis X.env.scope x := by first | exact Or.inl rfl | exact Or.inr (Or.inl rfl) | exact Or.inr (Or.inr rfl)) (hd : (x == ("__debug__" : Str)) = false := by decide) (hcd : (x == ("__classdict__" : Str)) = false := by decide) : DI (isFz i) I X tg (.Name x pos) (aKeys i) := di_keys i hN hv hd hcd
theorem w_gn (i : Nat) (hN : X.N.Nodup) (ho : i ∉ I.own := by decide) (hb : I.bs ≠ some i := by decide) (hi : X.N[i]? = some x := by rfl) (hx : Loc X.env.scope x := by first | exact .inl rfl | exact .inr rfl) (hf : X.fn x = true ∨ X.env.scope.names.lookup x = some .local := by first | exact .inl rfl | exact .inr rfl | assumption) : DG I X (.Name x pos) [i] (gN i) := dg_name i ho hb hN hi hx hf
theorem w_set (i : Nat) (hN : X.N.Nodup) (he : DE I X e me) (ho : i ∉ I.own := by decide) (hb : I.bs ≠ some i := by decide) (hi : X.N[i]? = some x := by rfl) (hx : Loc X.env.scope x := by first | exact .inl rfl | exact .inr rfl) (hs : swapsWith e (some (.Name x pos')) pos.line X.env = pure false := by rfl)
    (hf : X.fn x = true ∨ X.env.scope.names.lookup x = some .local := by first | exact .inl rfl | exact .inr rfl | assumption) : DS I X (.Assign [.Name x pos'] e pos) (sSet i me) := ds_set i ho hb hN hi hx he hs hf
theorem w_setO (i : Nat) (hN : X.N.Nodup) (he : DF I X e me) (ho : i ∈ I.own := by decide) (hk : i ∉ I.lk := by decide) (hb : I.bs ≠ some i := by decide) (hi : X.N[i]? = some x := by rfl) (hx : Loc X.env.scope x := by first | exact .inl rfl | exact .inr rfl) (hs : swapsWith e (some (.Name x pos')) pos.line X.env = pure false := by rfl)
    (hf : X.fn x = true ∨ X.env.scope.names.lookup x = some .local := by first | exact .inl rfl | exact .inr rfl | assumption) : DS I X (.Assign [.Name x pos'] e pos) (sSet i me) := ds_setO i ho hk hb hN hi hx he hs hf
theorem w_retO (i : Nat) (ho : i ∈ I.own := by decide) (hN : X.N[i]? = some x := by rfl) (hv : Vis X.env.scope x := by first | exact Or.inl rfl | exact Or.inr (Or.inl rfl) | exact Or.inr (Or.inr rfl)) (hd : (x == ("__debug__" : Str)) = false := by decide) (hcd : (x == ("__classdict__" : Str)) = false := by decide) : DS I X (.Return (some (.Name x pos')) pos) (sRet (mV i)) := ds_retO i ho hN hv hd hcd
theorem w_par2 (i j : Nat) {fl : List Bool} {mr : MA} {px py pt : Pos} {kt k2 pt2} (hN : X.N.Nodup) (ha : DAX I X fl [a, b] mr) (hso : SlotsOk I [i, j] fl := by exact slotsOk (by decide)) (hc : X.calm = true := by rfl) (hi : X.N[i]? = some x := by rfl) (hj : X.N[j]? = some y := by rfl) (hij : i ≠ j := by decide)
    (hx : X.env.scope.names.lookup x = some .local := by rfl) (hy : X.env.scope.names.lookup y = some .local := by rfl)
    (hw : swappedStores [.Tuple [.Name x px, .Name y py] kt pt] (.Tuple [a, b] k2 pt2) X.env = pure (some [x, y]) := by rfl)
    (hs : swapsWithSole [.Tuple [.Name x px, .Name y py] kt pt] (.Tuple [a, b] k2 pt2) pos.line X.env = pure false := by rfl) : DS I X (.Assign [.Tuple [.Name x px, .Name y py] kt pt] (.Tuple [a, b] k2 pt2) pos) (sPar [i, j] mr) :=
  ds_par2 i j hso hc hN hi hj hij hx hy ha hw hs
theorem w_gsub (i : Nat) {ie : Expr} {tt : TSet} {φ : D → D → D → (D → Prop) → Prop} (ht : PSet X tt) (hr : StR X.K tt φ) (he : DE I X ie mi) (ho : i ∈ I.own := by decide) (hk : i ∉ I.lk := by decide) (hN : X.N[i]? = some x := by rfl) (hv : Vis X.env.scope x := by first | exact Or.inl rfl | exact Or.inr (Or.inl rfl) | exact Or.inr (Or.inr rfl))
    (hd : (x == ("__debug__" : Str)) = false := by decide) (hcd : (x == ("__classdict__" : Str)) = false := by decide)
    (ha : ∀ v, assign (.Subscript (.Name x pos2) ie pos) X.env v = (do
      let ov ← holding [v] (eval (.Name x pos2) X.env)
      let iv ← holding [v, ov] (eval ie X.env)
      standAt pos
      holding [v, ov, iv] (setItem ov iv v)
      release [v, ov, iv] []) := by intro _; rfl) : DGw I X (.Subscript (.Name x pos2) ie pos) (gSt i φ mi) := dgw_sub i ht hr ho hk hN hv he hd hcd ha
theorem w_app (i : Nat) (ha : DAE I X [e] mA) (ho : i ∈ I.own := by decide) (hk : i ∉ I.lk := by decide) (hN : X.N[i]? = some x := by rfl) (hv : Vis X.env.scope x := by first | exact Or.inl rfl | exact Or.inr (Or.inl rfl) | exact Or.inr (Or.inr rfl))
    (hd : (x == ("__debug__" : Str)) = false := by decide) (hcd : (x == ("__classdict__" : Str)) = false := by decide)
    (hbase : attributeBase (.Name x pos3) "append" X.env (eval (.Name x pos3) X.env) = eval (.Name x pos3) X.env := by rfl)
    (hfew : ((backTo cpos (starEach [e] X.env)).all (fun x => !x.1) && (backToKw cpos (keywordEach [] X.env)).all (fun x => x.1.isSome)
      && decide ([e].length + ([] : List Keyword).length + (if ([] : List Keyword).isEmpty then 0 else 1) < 30)) = true := by rfl)
    (hline : (apos.endLine == cpos.line) = true := by rfl) (hs : starEach [e] X.env = (false, eval e X.env) :: starEach [] X.env := by rfl) (hplain : (backTo cpos (starEach [] X.env)).any (·.1) = false := by rfl) :
    DM I X (.Call (.Attribute (.Name x pos3) "append" apos) [e] [] cpos) (mMeth i "list" qAppend mA) := dm_meth i mu_append PySem.F.plainAttrs_list PySem.F.slot_list_append PySem.F.type_list_append mt_append ho hk hN hv ha hd hcd hbase hfew hline hs hplain
theorem w_ext (i : Nat) (ha : DAE I X [e] mA) (ho : i ∈ I.own := by decide) (hk : i ∉ I.lk := by decide) (hN : X.N[i]? = some x := by rfl) (hv : Vis X.env.scope x := by first | exact Or.inl rfl | exact Or.inr (Or.inl rfl) | exact Or.inr (Or.inr rfl))
    (hd : (x == ("__debug__" : Str)) = false := by decide) (hcd : (x == ("__classdict__" : Str)) = false := by decide)
    (hbase : attributeBase (.Name x pos3) "extend" X.env (eval (.Name x pos3) X.env) = eval (.Name x pos3) X.env := by rfl)
    (hfew : ((backTo cpos (starEach [e] X.env)).all (fun x => !x.1) && (backToKw cpos (keywordEach [] X.env)).all (fun x => x.1.isSome)
      && decide ([e].length + ([] : List Keyword).length + (if ([] : List Keyword).isEmpty then 0 else 1) < 30)) = true := by rfl)
    (hline : (apos.endLine == cpos.line) = true := by rfl) (hs : starEach [e] X.env = (false, eval e X.env) :: starEach [] X.env := by rfl) (hplain : (backTo cpos (starEach [] X.env)).any (·.1) = false := by rfl) :
    DM I X (.Call (.Attribute (.Name x pos3) "extend" apos) [e] [] cpos) (mMeth i "list" qExtend mA) := dm_meth i mu_extend PySem.F.plainAttrs_list PySem.F.slot_list_extend PySem.F.type_list_extend mt_extendD ho hk hN hv ha hd hcd hbase hfew hline hs hplain
theorem w_popAt (i : Nat) (ha : DAE I X [e] mA) (ho : i ∈ I.own := by decide) (hk : i ∉ I.lk := by decide) (hN : X.N[i]? = some x := by rfl) (hv : Vis X.env.scope x := by first | exact Or.inl rfl | exact Or.inr (Or.inl rfl) | exact Or.inr (Or.inr rfl))
    (hd : (x == ("__debug__" : Str)) = false := by decide) (hcd : (x == ("__classdict__" : Str)) = false := by decide)
    (hbase : attributeBase (.Name x pos3) "pop" X.env (eval (.Name x pos3) X.env) = eval (.Name x pos3) X.env := by rfl)
    (hfew : ((backTo cpos (starEach [e] X.env)).all (fun x => !x.1) && (backToKw cpos (keywordEach [] X.env)).all (fun x => x.1.isSome)
      && decide ([e].length + ([] : List Keyword).length + (if ([] : List Keyword).isEmpty then 0 else 1) < 30)) = true := by rfl)
    (hline : (apos.endLine == cpos.line) = true := by rfl) (hs : starEach [e] X.env = (false, eval e X.env) :: starEach [] X.env := by rfl) (hplain : (backTo cpos (starEach [] X.env)).any (·.1) = false := by rfl) :
    DM I X (.Call (.Attribute (.Name x pos3) "pop" apos) [e] [] cpos) (mMeth i "list" qPopAt mA) := dm_meth i mu_popAt PySem.F.plainAttrs_list PySem.F.slot_list_pop PySem.F.type_list_pop mt_popAt ho hk hN hv ha hd hcd hbase hfew hline hs hplain
theorem w_pop (i : Nat) (ho : i ∈ I.own := by decide) (hk : i ∉ I.lk := by decide) (hN : X.N[i]? = some x := by rfl) (hv : Vis X.env.scope x := by first | exact Or.inl rfl | exact Or.inr (Or.inl rfl) | exact Or.inr (Or.inr rfl))
    (hd : (x == ("__debug__" : Str)) = false := by decide) (hcd : (x == ("__classdict__" : Str)) = false := by decide)
    (hbase : attributeBase (.Name x pos3) "pop" X.env (eval (.Name x pos3) X.env) = eval (.Name x pos3) X.env := by rfl) (hline : (apos.endLine == cpos.line) = true := by rfl) :
    DM I X (.Call (.Attribute (.Name x pos3) "pop" apos) [] [] cpos) (mMeth i "list" qPop aNil) := dm_meth0 i mu_pop PySem.F.plainAttrs_list PySem.F.slot_list_pop PySem.F.type_list_pop mt_pop ho hk hN hv hd hcd hbase hline
/-- names whose value the top has not written -/
theorem w_ix (hr : ∃ k, Room k X.A) (ha : DB I X a ma) (hb : DE I X b mb) (hs : PlainIx b := by intro _ _; rfl) : DE I X (.Subscript a b pos) (m2 pIx ma mb) := de_ix (by obtain ⟨k, r⟩ := hr; have := r.un; omega) ha hb hs
theorem hu200 {k : Nat} {A : Around} (r : Room k A) : A.units + 200 < cLine := by have := r.un; omega
theorem hu1 {k : Nat} {A : Around} (r : Room k A) : A.units + 1 < cLine := by have := r.un; omega
end
section
variable {I : SI} {X : Cx} {x : Str} {p pos : Pos} {e : Expr} {es : List Expr} {ma : MA} {k : Nat} {f : Addr} {fd : FuncData} {ps : List Str} {n : Nat} {φ : MF} {bk : BK}
theorem w_call (F : FnOk X.prog X.w X.K X.mg X.base CX0 k f fd ps (spD X.K n φ)) (hr : Room k X.A) (hm : X.mg x = some (.ref f)) (hk : PySem.W.keepIn X.K (.ref f) = true) (hb : Binds X.K fd ps []) (ha : DAE I X (e :: es) ma) (hg : Gl X x := by rfl)
    (hdb : (x == ("__debug__" : Str)) = false := by decide) (he : starEach (e :: es) X.env = (false, eval e X.env) :: starEach es X.env := by rfl) (hpl : (backTo pos (starEach es X.env)).any (·.1) = false := by rfl) : DE I X (.Call (.Name x p) (e :: es) [] pos) (mCall n φ ma) := de_call F hr hg hm hk hb ha hdb he hpl
theorem w_callB (i : Nat) {bx : Str} {pb : Pos} (F : FnOk X.prog X.w X.K X.mg X.base CX0 k f fd ps (spB X.K bk n φ)) (hr : Room k X.A) (hm : X.mg x = some (.ref f)) (hk : PySem.W.keepIn X.K (.ref f) = true) (hb : Binds X.K fd ps []) (ha : DAE I X es ma)
    (hbs : I.bs = some i := by rfl) (hI : I.bk = bk := by rfl) (hNb : X.N[i]? = some bx := by rfl) (hvb : Vis X.env.scope bx := by first | exact Or.inl rfl | exact Or.inr (Or.inl rfl) | exact Or.inr (Or.inr rfl)) (hg : Gl X x := by rfl)
    (hdb : (x == ("__debug__" : Str)) = false := by decide) (hdb1 : (bx == ("__debug__" : Str)) = false := by decide) (hdb2 : (bx == ("__classdict__" : Str)) = false := by decide)
    (he : starEach (.Name bx pb :: es) X.env = (false, eval (.Name bx pb) X.env) :: starEach es X.env := by rfl) (hpl : (backTo pos (starEach es X.env)).any (·.1) = false := by rfl) : DE I X (.Call (.Name x p) (.Name bx pb :: es) [] pos) (mCall n φ ma) := de_callB i hbs hI hNb hvb F hr hg hm hk hb ha hdb hdb1 hdb2 he hpl
end
end PyD
namespace PyD
open PySem PySem.Spec L2
open PyProof.Rows hiding St
def boxK : BK := fun H b c => ∃ (x y : Int) (ns : List Int), H b = some (.lst [.ref c, .int x, .int y]) ∧ H c = some (.lst (ns.map V.int))
theorem boxK_st : BkSt boxK := fun H H' a c h1 h2 ⟨x, y, ns, e1, e2⟩ => ⟨x, y, ns, h1 ▸ e1, h2 ▸ e2⟩
section
variable {I : SI} {W : DW} {K : PySem.W.Frag} {σ : St} {ρ : En} {H : Hp} {i : Nat}
theorem SR.boxRaw (ok : WOk I W) (S : SR I W K σ H ρ) (hbs : I.bs = some i) (hI : I.bk = boxK) : ∃ b c x y, ∃ ns : List Int, W.box = some (b, c) ∧ σ[i]? = some (some (.ref b)) ∧ H b = some (.lst [.ref c, .int x, .int y]) ∧ H c = some (.lst (ns.map V.int)) ∧ b ≠ c := by
  obtain ⟨⟨b, c⟩, hp, hs⟩ := S.bsl i hbs
  have hk := S.box _ hp
  rw [hI] at hk
  obtain ⟨x, y, ns, e1, e2⟩ := hk
  rw [unl_none (ok.lbx _ ⟨_, hp, .inl rfl⟩)] at e1
  rw [unl_none (ok.lbx _ ⟨_, hp, .inr rfl⟩)] at e2
  refine ⟨b, c, x, y, ns, hp, hs, e1, e2, fun z => ?_⟩
  rw [show b = c from z, e2] at e1
  cases ns with
  | nil => cases e1
  | cons n ns => rw [List.map_cons] at e1; cases e1
/-- the box has changed -/
theorem SR.boxed (ok : WOk I W) (S : SR I W K σ H ρ) (hI : I.bk = boxK) {b c : Addr} (hp : W.box = some (b, c)) {H' : Hp} (hk : boxK H' b c) (st : ∀ x, x ≠ b → x ≠ c → H' x = H x) : SR I W K σ H' ρ ∧ Ex W H H' := by
  have bb : W.bx b := ⟨_, hp, .inl rfl⟩
  have bc : W.bx c := ⟨_, hp, .inr rfl⟩
  have isb : ∀ x, W.bx x → x = b ∨ x = c := fun x ⟨p, hp', h⟩ => by rw [hp] at hp'; cases hp'; exact h
  obtain ⟨S1, e1, _⟩ := S.called ok (H' := H') (fun x o h n => by rw [st x (fun z => n (z ▸ bb)) fun z => n (z ▸ bc)]; exact h) (fun p hp' => by rw [hp] at hp'; cases hp'; rw [hI]; exact hk) (fun x hx => by
    obtain ⟨x1, y1, ns, q1, q2⟩ := hk
    rcases isb x hx with z | z
    · rw [z]; exact ⟨_, q1, rfl⟩
    · rw [z]; exact ⟨_, q2, rfl⟩)
  exact ⟨S1, e1⟩
/-- a name of which nothing is known any more -/
theorem SR.forget (S : SR I W K σ H ρ) (ho : i ∉ I.own) (hb : I.bs ≠ some i) (v : V) : SR I W K (σ.set i (some v)) H (ρ.set i none) ∧ (∀ b, avA W I.own (σ.set i (some v)) (ρ.set i none) b ↔ avA W I.own σ ρ b) := by
  have key : ∀ b, avA W I.own (σ.set i (some v)) (ρ.set i none) b ↔ avA W I.own σ ρ b := fun b => by
    constructor
    · rintro (z | ⟨j, hj, ⟨d, hd⟩, hs⟩)
      · exact .inl z
      · have ne : i ≠ j := fun z => ho (z ▸ hj)
        rw [List.getElem?_set_ne ne] at hd hs
        exact .inr ⟨j, hj, ⟨d, hd⟩, hs⟩
    · rintro (z | ⟨j, hj, ⟨d, hd⟩, hs⟩)
      · exact .inl z
      · have ne : i ≠ j := fun z => ho (z ▸ hj)
        exact .inr ⟨j, hj, ⟨d, by rw [List.getElem?_set_ne ne]; exact hd⟩, by rw [List.getElem?_set_ne ne]; exact hs⟩
  have c : Cm (avA W I.own σ ρ) (avA W I.own (σ.set i (some v)) (ρ.set i none)) (unl W.L H) (unl W.L H) := ⟨fun b _ n _ z => n ((key b).mp z), fun _ _ _ _ h => h, fun _ _ _ h => h⟩
  have lv : ∀ {j : Nat} {d : D}, (ρ.set i none)[j]? = some (some d) → i ≠ j ∧ ρ[j]? = some (some d) := fun {j d} h => by
    rcases getSet h with ⟨_, e⟩ | ⟨n, e⟩
    · cases e
    · exact ⟨n, e⟩
  refine ⟨⟨by rw [List.length_set, List.length_set]; exact S.len, S.lkd, fun j d h n => ?_, fun j d h n => ?_, fun j k a hj hk ⟨d, hd⟩ ⟨e, he⟩ hs ht => ?_, S.fr, S.avt, S.box, fun j hj => ?_⟩, key⟩
  · obtain ⟨ne, h⟩ := lv h
    obtain ⟨u, h1, r⟩ := S.val j d h n
    exact ⟨u, by rw [List.getElem?_set_ne ne]; exact h1, r.mono c⟩
  · obtain ⟨ne, h⟩ := lv h
    obtain ⟨a, h1, ow, h2⟩ := S.own j d h n
    exact ⟨a, by rw [List.getElem?_set_ne ne]; exact h1, ow.mono c rfl, h2⟩
  · obtain ⟨n1, hd⟩ := lv hd
    obtain ⟨n2, he⟩ := lv he
    rw [List.getElem?_set_ne n1] at hs
    rw [List.getElem?_set_ne n2] at ht
    exact S.inj j k a hj hk ⟨d, hd⟩ ⟨e, he⟩ hs ht
  · have ne : i ≠ j := fun z => hb (z ▸ hj)
    obtain ⟨p, h1, h2⟩ := S.bsl j hj
    exact ⟨p, h1, by rw [List.getElem?_set_ne ne]; exact h2⟩
theorem Kp.forget (hl : ∀ j ∈ I.lk, j ∈ I.own) (ho : i ∉ I.own) {v : V} (key : ∀ b, avA W I.own (σ.set i (some v)) (ρ.set i none) b ↔ avA W I.own σ ρ b) : Kp I W σ ρ H (σ.set i (some v)) (ρ.set i none) H where
  st := fun b o n h => ⟨fun z => n ((key b).mp z), h⟩
  lk := fun j hj => by
    have ne : i ≠ j := fun z => ho (z ▸ hl j hj)
    rw [List.getElem?_set_ne ne, List.getElem?_set_ne ne]
    exact ⟨rfl, rfl, fun _ _ _ => rfl⟩
end
section
variable {I : SI} {X : Cx} {bx xc xk : Str} {p1 p2 p3 p4 p5 q1 q2 q3 q4 q5 q6 r1 r2 r3 r4 r5 r6 r7 r8 pos : Pos} {e : Expr} {me : ME} {rest rest2 : List Stmt} {m m2 : MS} {j0 j1 j2 : Nat}
def mBoxI : ME := fun _ Q => ∀ n, Q (.int n)
/-- box[1], box[2] -/
theorem de_boxI (i : Nat) {j : Int} (hj : j = 1 ∨ j = 2) (hbs : I.bs = some i := by rfl) (hI : I.bk = boxK := by rfl) (hN : X.N[i]? = some bx := by rfl) (hv : Vis X.env.scope bx := by first | exact Or.inl rfl | exact Or.inr (Or.inl rfl) | exact Or.inr (Or.inr rfl))
    (hd : (bx == ("__debug__" : Str)) = false := by decide) (hcd : (bx == ("__classdict__" : Str)) = false := by decide) : DE I X (.Subscript (.Name bx p1) (.Constant (.int j) j0 p2) p3) mBoxI :=
  pe_imp (pe_ix ix_list (pe_var hN hv hd hcd) pe_int (fun _ _ => rfl)) fun σ H Q ⟨W, ρ, Qd, ok, S, hm, f⟩ => by
    obtain ⟨b, c, x, y, ns, hp, hs, e1, e2, _⟩ := S.boxRaw ok hbs hI
    rcases hj with rfl | rfl
    · exact ⟨.ref b, hs, b, _, 1, .int x, rfl, rfl, .inl (.inl e1), rfl, f.here S (.int x) (hm x)⟩
    · exact ⟨.ref b, hs, b, _, 2, .int y, rfl, rfl, .inl (.inl e1), rfl, f.here S (.int y) (hm y)⟩
def sBoxPut (me : ME) : MS := fun M ρ => me ρ fun d => match d with
  | .int _ => M.nx ρ
  | _ => False
theorem ds_boxPut (i : Nat) {j : Int} (hj : j = 1 ∨ j = 2) (he : DE I X e me) (hbs : I.bs = some i := by rfl) (hI : I.bk = boxK := by rfl) (hN : X.N[i]? = some bx := by rfl) (hv : Vis X.env.scope bx := by first | exact Or.inl rfl | exact Or.inr (Or.inl rfl) | exact Or.inr (Or.inr rfl))
    (hd : (bx == ("__debug__" : Str)) = false := by decide) (hcd : (bx == ("__classdict__" : Str)) = false := by decide)
    (hs : swapsWithSole [.Subscript (.Name bx p1) (.Constant (.int j) j0 p2) p3] e pos.line X.env = pure false := by rfl) (hw : swappedStores [.Subscript (.Name bx p1) (.Constant (.int j) j0 p2) p3] e X.env = pure none := by rfl)
    (h1 : (assignEach [.Subscript (.Name bx p1) (.Constant (.int j) j0 p2) p3] X.env).map (·.2) = [assign (.Subscript (.Name bx p1) (.Constant (.int j) j0 p2) p3) X.env] := by rfl)
    (ha : ∀ v, assign (.Subscript (.Name bx p1) (.Constant (.int j) j0 p2) p3) X.env v = (do
      let ov ← holding [v] (eval (.Name bx p1) X.env)
      let iv ← holding [v, ov] (eval (.Constant (.int j) j0 p2) X.env)
      standAt p3
      holding [v, ov, iv] (setItem ov iv v)
      release [v, ov, iv] []) := by intro _; rfl) :
    DS I X (.Assign [.Subscript (.Name bx p1) (.Constant (.int j) j0 p2) p3] e pos) (sBoxPut me) :=
  ps_imp (ps_asg he (pg_sub (pe_var hN hv hd hcd) pe_int set_list ha) hs hw h1) fun D σ H ⟨W, ρ, M, ok, S, hl, hm, E⟩ => ⟨W, ρ, _, ok, S, hm, fun v H' d q e1 S1 r => by
    cases d <;> try exact False.elim q
    rename_i n
    cases r
    obtain ⟨b, c, x, y, ns, hp, hs', q1, q2, hne⟩ := S1.boxRaw ok hbs hI
    have go : ∀ k x' y', ixN 3 j = some k → [V.ref c, .int x, .int y].set k (.int n) = [V.ref c, .int x', .int y'] → ∃ v, σ[i]? = some (some v) ∧ rSetL v (.int j) (.int n) H' fun H6 => D.nx σ H6 := fun k x' y' hk hse => by
      refine ⟨.ref b, hs', b, _, j, k, rfl, rfl, q1, hk, ?_⟩
      obtain ⟨S2, e2⟩ := S1.boxed ok hI hp (H' := upd H' b (.lst ([V.ref c, .int x, .int y].set k (.int n)))) ⟨x', y', ns, by rw [upd_same, hse], by rw [upd_ne (Ne.symm hne)]; exact q2⟩ fun z n1 n2 => upd_ne n1
      exact E.nx _ _ _ q S2 ((e1.trans e2).kp ok S hl)
    rcases hj with rfl | rfl
    · exact go 1 n y rfl rfl
    · exact go 2 x n rfl rfl⟩
/-- cells = box[0]; if len(cells) > 0: k = int(cells.pop(0)); .. -/
def sCells (ic ik : Nat) (m m2 : MS) : MS := fun M ρ => ic < ρ.length ∧ (∀ n, m { M with nx := fun ρ' => m2 M ρ' } ((ρ.set ic none).set ik (some (.int n)))) ∧ m2 M (ρ.set ic none)
theorem dss_cells (i ic ik : Nat) (hN : X.N.Nodup) (hbs : I.bs = some i) (hI : I.bk = boxK) (hNb : X.N[i]? = some bx) (hNc : X.N[ic]? = some xc) (hNk : X.N[ik]? = some xk) (vb : Vis X.env.scope bx) (vc : X.env.scope.names.lookup xc = some .local) (vk : X.env.scope.names.lookup xk = some .local)
    (hoc : ic ∉ I.own) (hok : ik ∉ I.own) (hbc : I.bs ≠ some ic) (hbk : I.bs ≠ some ik) (hck : ic ≠ ik) (glen : Gl X "len") (mlen : X.mg "len" = none) (gint : Gl X "int") (mint : X.mg "int" = none)
    (db1 : (bx == ("__debug__" : Str)) = false) (db2 : (bx == ("__classdict__" : Str)) = false) (dc1 : (xc == ("__debug__" : Str)) = false) (dc2 : (xc == ("__classdict__" : Str)) = false)
    (hs1 : swapsWith (.Subscript (.Name bx p2) (.Constant (.int 0) j0 p3) p4) (some (.Name xc p1)) p5.line X.env = pure false)
    (hs2 : swapsWith (.Call (.Name "int" r2) [.Call (.Attribute (.Name xc r3) "pop" r4) [.Constant (.int 0) j2 r5] [] r6] [] r7) (some (.Name xk r1)) r8.line X.env = pure false)
    (pop : ∀ {t : TE}, PE X (.Name xc r3) t → PE X (.Call (.Attribute (.Name xc r3) "pop" r4) [.Constant (.int 0) j2 r5] [] r6) (tBM X.K "list" rPopAt t (tCons (tC (.int 0)) tNil)))
    (hsl : starEach [.Name xc q2] X.env = (false, eval (.Name xc q2) X.env) :: starEach [] X.env) (hpl : (backTo q3 (starEach [] X.env)).any (·.1) = false)
    (hsp : starEach [.Call (.Attribute (.Name xc r3) "pop" r4) [.Constant (.int 0) j2 r5] [] r6] X.env = (false, eval (.Call (.Attribute (.Name xc r3) "pop" r4) [.Constant (.int 0) j2 r5] [] r6) X.env) :: starEach [] X.env) (hpp : (backTo r7 (starEach [] X.env)).any (·.1) = false)
    (h1 : DSs I X rest m) (h2 : DSs I X rest2 m2) :
    DSs I X (.Assign [.Name xc p1] (.Subscript (.Name bx p2) (.Constant (.int 0) j0 p3) p4) p5 ::
      .If (.Compare (.Call (.Name "len" q1) [.Name xc q2] [] q3) [.Gt] [.Constant (.int 0) j1 q4] q5)
        (.Assign [.Name xk r1] (.Call (.Name "int" r2) [.Call (.Attribute (.Name xc r3) "pop" r4) [.Constant (.int 0) j2 r5] [] r6] [] r7) r8 :: rest) [] q6 :: rest2) (sCells ic ik m m2) :=
  pss_imp (pss_cons (ps_set hN hNc (.inl vc) (pe_ix ix_list (pe_var hNb vb db1 db2) pe_int (fun _ _ => rfl)) hs1 (.inr vc))
    (pss_cons (ps_if (pt_cmpR op_gt (pe_callB call_len_seq glen mlen boot_len (pa_cons (pe_var hNc (.inl vc) dc1 dc2) pa_nil hsl) (by decide) (by decide) hsl hpl) pe_int (nomark _))
      (pss_cons (ps_set hN hNk (.inl vk) (pe_callTy call_int1 gint mint boot_int (pa_cons (pop (pe_var hNc (.inl vc) dc1 dc2)) pa_nil hsp) (by decide) (by decide) hsp hpp) hs2 (.inr vk)) h1) pss_nil) h2)) fun D σ H ⟨W, ρ, M, ok, S, hl, hm, E⟩ => by
    obtain ⟨b, c, x, y, ns, hp, hs', e1, e2, hne⟩ := S.boxRaw ok hbs hI
    refine ⟨.ref b, hs', b, _, 0, .ref c, rfl, rfl, .inl (.inl e1), rfl, ?_⟩
    obtain ⟨S1, k1⟩ := S.forget hoc hbc (.ref c)
    have kp1 : Kp I W σ ρ H (σ.set ic (some (.ref c))) (ρ.set ic none) H := Kp.forget hl hoc k1
    obtain ⟨hil, hm⟩ := hm
    rw [S.len] at hil
    have hc : (σ.set ic (some (V.ref c)))[ic]? = some (some (.ref c)) := List.getElem?_set_self hil
    refine ⟨.ref c, hc, c, ns.map V.int, rfl, .inl (.inl (.inl e2)), _, _, rfl, rfl, _, rfl, ?_⟩
    cases ns with
    | nil =>
      rw [if_neg (by simp)]
      exact ⟨W, ρ.set ic none, M, ok, S1, hl, hm.2, E.kp kp1⟩
    | cons n ns =>
      rw [if_pos (by simp)]
      refine ⟨.ref c, hc, .inl ⟨rfl, _, .inl (.inl e2)⟩, c, _, 0, 0, .int n, rfl, rfl, e2, by decide, by decide, by simp [seqIndex?], rfl, .inl ⟨n, rfl, ?_⟩⟩
      obtain ⟨S2, x2⟩ := S1.boxed ok hI hp (H' := upd H c (.lst (((n :: ns).map V.int).eraseIdx 0))) ⟨x, y, ns, by rw [upd_ne hne]; exact e1, by rw [upd_same]; rfl⟩ fun z n1 n2 => upd_ne n2
      obtain ⟨S3, k3⟩ := S2.setV (i := ik) hok hbk (v := .int n) (d := .int n) (.int n)
      have kp3 := (kp1.trans (x2.kp ok S1 hl)).trans (Kp.setV S2 hl hok k3)
      refine ⟨W, _, _, ok, S3, hl, hm.1 n, ?_⟩
      exact ⟨fun σ' H' ρ' hn S' k' => ⟨W, ρ', M, ok, S', hl, hn, E.kp (kp3.trans k')⟩, E.rt, fun σ' H' ρ' hn S' k' => E.bk _ _ _ hn S' (kp3.trans k'), fun σ' H' ρ' hn S' k' => E.ct _ _ _ hn S' (kp3.trans k')⟩
end
end PyD
namespace PyD
open PySem PySem.Spec L2
open PyProof.Rows hiding St
def spBox (K : PySem.W.Frag) : Sp := fun vs H Q _ => ∃ (a : Addr) (ns : List Int), vs = [.ref a] ∧ SqL K H a (ns.map V.int) ∧ ns.length ≤ 63 ∧
  ∀ H' b c, (∀ x o, H x = some o → H' x = some o) → H b = none → H c = none → boxK H' b c → Q (.ref b) H'
def spLaw (K : PySem.W.Frag) : Sp := fun vs H Q _ => ∃ (a : Addr) (ns : List Int), vs = [.ref a] ∧ ns.length ≤ 63 ∧ SqL K H a (ns.map V.int) ∧ ∀ H', Q (.bl true) H'
theorem startD_none {N : List Str} {i n : Nat} {d : D} : (startD N (List.replicate n none))[i]? ≠ some (some d) := fun h => by
  have := startD_get h
  rw [List.getElem?_replicate] at this
  split at this <;> cases this
section
variable {P : Program} {w : World} {K : PySem.W.Frag} {mg : Str → Option Value} {base : Heap}
theorem lawD {st : Stmt} {f : Addr} {fd : FuncData} {N : List Str} {k : Nat} (F : Fun K "law" "law" st f fd) (S : FnScope N ["script"] (defScope st)) (hN : 2 ≤ N.length) (I : SI) (hbs : I.bs = some 1) (hlk : I.lk = []) {s0 : Stmt} {rest : List Stmt} {m : MS} (hbd : defBody st = s0 :: rest)
    (h0 : ∀ (cdv : Value) (A : Around) (outer : List Env) (s : Shared) (H : Hp) (E : XK), Room k (A.deeper (envOfC "law" (defScope st) s.heap.objs.size f cdv)) → PS (cxOf CX0 P w K mg base N "law" (defScope st) f cdv A outer s H E).nox s0 (tAsg (tCall (spBox K) [] E0 (tCons (tVar 0) tNil)) (gName 1)))
    (hb : ∀ (cdv : Value) (A : Around) (outer : List Env) (s : Shared) (H : Hp) (E : XK), Room k (A.deeper (envOfC "law" (defScope st) s.heap.objs.size f cdv)) → DSs { I with bk := boxK } (cxOf CX0 P w K mg base N "law" (defScope st) f cdv A outer s H E).nox rest m)
    (hm : m ⟨fun _ => False, fun d => d = .bool true, fun _ => False, fun _ => False⟩ (startD N (List.replicate 2 none))) : FnOk P w K mg base CX0 (k + 1) f fd ["script"] (spLaw K) := by
  refine F.ok S (fun vs H Q E ⟨a, ns, e, _⟩ => by rw [e]; rfl) (fun cdv A outer s H vs Q E hr h => ?_)
  obtain ⟨a, ns, rfl, hlen, hS, q⟩ := h
  rw [hbd]
  refine ⟨_, pss_cons (h0 cdv A outer s H E hr) (hb cdv A outer s H E hr), ?_⟩
  refine ⟨.ref a, rfl, a, ns, rfl, hS, hlen, fun H1 b c keep fb fc hk => ?_⟩
  have hne : b ≠ c := fun z => by
    obtain ⟨x, y, ms, e1, e2⟩ := hk
    rw [z, e2] at e1
    cases ms with
    | nil => cases e1
    | cons n ms => rw [List.map_cons] at e1; cases e1
  have hl : (L2.start N [V.ref a]).length = N.length := by
    unfold L2.start
    rw [List.length_append, List.length_map, List.length_replicate, List.length_singleton]; omega
  have hs1 : ((L2.start N [V.ref a]).set 1 (some (V.ref b)))[1]? = some (some (.ref b)) := List.getElem?_set_self (by omega)
  refine ⟨⟨H1, fun x => x = b ∨ x = c, some (b, c), []⟩, startD N (List.replicate 2 none), _, ?_, ?_, (fun i hi => by have hi : i ∈ I.lk := hi; rw [hlk] at hi; cases hi), hm, ?_⟩
  · exact ⟨fun x ⟨p, hp, h⟩ => by cases hp; exact h, fun b _ => rfl, boxK_st⟩
  · refine ⟨?_, fun b u e => (nomatch e), fun i d hd _ => absurd hd startD_none, fun i d hd _ => absurd hd startD_none, fun i j a _ _ ⟨d, hd⟩ => absurd hd startD_none, fun b o h _ => h, fun x hx => ?_, fun p hp => ?_, fun i hi => ?_⟩
    · unfold startD
      rw [List.length_set, hl, List.length_append, List.length_replicate, List.length_replicate]; omega
    · obtain ⟨x1, y1, ms, e1, e2⟩ := hk
      rcases hx with z | z
      · rw [z]; exact ⟨_, e1, rfl⟩
      · rw [z]; exact ⟨_, e2, rfl⟩
    · cases hp; exact hk
    · have hi : I.bs = some i := hi
      rw [hbs] at hi
      cases hi
      exact ⟨_, rfl, hs1⟩
  · refine ⟨fun _ _ _ z => z.elim, fun v H' d hd ro => ?_, fun _ _ _ z => z.elim, fun _ _ _ z => z.elim⟩
    have hd : d = .bool true := hd
    subst hd
    have hv := ro.rep
    cases hv
    exact q H'
end
end PyD
namespace PyD
open PySem PySem.Spec L2 PySem.W
open PyProof.Rows hiding St
abbrev enc {α : Type} [DecidableEq α] [Datum α] (a : α) : D := Datum.toD a
section
variable {α : Type} [DecidableEq α] [DatumOrd α]
theorem eqOk_d {α : Type} [DecidableEq α] [Datum α] (h : Datum.depth α ≤ 150) (x y : α) : EqOk (Datum.toD x) (Datum.toD y) := ⟨Datum.plain x, Datum.plain y, Nat.le_trans (Nat.le_trans (Nat.min_le_left _ _) (Datum.depth_le x)) h⟩
theorem ltOk_d (h : Datum.depth α ≤ 150) (x y : α) : LtOk (Datum.toD x) (Datum.toD y) := ⟨eqOk_d h x y, DatumOrd.alike x y, DatumOrd.notNone x⟩
theorem pEq_d {α : Type} [DecidableEq α] [Datum α] (h : Datum.depth α ≤ 150) (x y : α) (Q : D → Prop) : pEq (Datum.toD x) (Datum.toD y) Q ↔ Q (.bool (decide (x = y))) := by unfold pEq; rw [Datum.eqv]; exact ⟨fun h => h.2, fun q => ⟨eqOk_d h x y, q⟩⟩
theorem pNe_d {α : Type} [DecidableEq α] [Datum α] (h : Datum.depth α ≤ 150) (x y : α) (Q : D → Prop) : pNe (Datum.toD x) (Datum.toD y) Q ↔ Q (.bool (!decide (x = y))) := by unfold pNe; rw [Datum.eqv]; exact ⟨fun h => h.2, fun q => ⟨eqOk_d h x y, q⟩⟩
theorem pLt_d (h : Datum.depth α ≤ 150) (x y : α) (Q : D → Prop) : pLt (Datum.toD x) (Datum.toD y) Q ↔ Q (.bool (DatumOrd.lt x y)) := by unfold pLt; rw [DatumOrd.lt_eq]; exact ⟨fun h => h.2, fun q => ⟨ltOk_d h x y, q⟩⟩
theorem pGt_d (h : Datum.depth α ≤ 150) (x y : α) (Q : D → Prop) : pGt (Datum.toD x) (Datum.toD y) Q ↔ Q (.bool (DatumOrd.lt y x)) := by unfold pGt; rw [DatumOrd.lt_eq]; exact ⟨fun h => h.2, fun q => ⟨ltOk_d h x y, q⟩⟩
theorem pLe_d (h : Datum.depth α ≤ 150) (x y : α) (Q : D → Prop) : pLe (Datum.toD x) (Datum.toD y) Q ↔ Q (.bool (!DatumOrd.lt y x)) := by unfold pLe; rw [DatumOrd.lt_eq]; exact ⟨fun h => h.2, fun q => ⟨ltOk_d h x y, q⟩⟩
theorem pGe_d (h : Datum.depth α ≤ 150) (x y : α) (Q : D → Prop) : pGe (Datum.toD x) (Datum.toD y) Q ↔ Q (.bool (!DatumOrd.lt x y)) := by unfold pGe; rw [DatumOrd.lt_eq]; exact ⟨fun h => h.2, fun q => ⟨ltOk_d h x y, q⟩⟩
theorem minOk_d (h : Datum.depth α ≤ 150) (x : α) (xs : List α) : MinOk (Datum.toD x) (xs.map Datum.toD) := ⟨alikeAll_datum (x :: xs), plainAll_map (x :: xs), Nat.le_trans (depthAll_map (x :: xs)) h⟩
end
theorem pEq_int (i j : Int) (Q : D → Prop) : pEq (.int i) (.int j) Q ↔ Q (.bool (decide (i = j))) := pEq_d (α := Int) (by decide) i j Q
theorem pNe_int (i j : Int) (Q : D → Prop) : pNe (.int i) (.int j) Q ↔ Q (.bool (!decide (i = j))) := pNe_d (α := Int) (by decide) i j Q
theorem pEq_bool (i j : Bool) (Q : D → Prop) : pEq (.bool i) (.bool j) Q ↔ Q (.bool (decide (i = j))) := pEq_d (α := Bool) (by decide) i j Q
theorem pNe_bool (i j : Bool) (Q : D → Prop) : pNe (.bool i) (.bool j) Q ↔ Q (.bool (!decide (i = j))) := pNe_d (α := Bool) (by decide) i j Q
theorem pEq_str (i j : Str) (Q : D → Prop) : pEq (.str i) (.str j) Q ↔ Q (.bool (decide (i = j))) := pEq_d (α := Str) (by decide) i j Q
theorem pNe_str (i j : Str) (Q : D → Prop) : pNe (.str i) (.str j) Q ↔ Q (.bool (!decide (i = j))) := pNe_d (α := Str) (by decide) i j Q
theorem pLt_int (i j : Int) (Q : D → Prop) : pLt (.int i) (.int j) Q ↔ Q (.bool (decide (i < j))) := pLt_d (α := Int) (by decide) i j Q
theorem pGt_int (i j : Int) (Q : D → Prop) : pGt (.int i) (.int j) Q ↔ Q (.bool (decide (j < i))) := pGt_d (α := Int) (by decide) i j Q
theorem pLe_int (i j : Int) (Q : D → Prop) : pLe (.int i) (.int j) Q ↔ Q (.bool (decide (i ≤ j))) := by
  rw [show decide (i ≤ j) = !decide (j < i) by rw [← decide_not]; exact decide_eq_decide.mpr (by omega)]; exact pLe_d (α := Int) (by decide) i j Q
theorem pGe_int (i j : Int) (Q : D → Prop) : pGe (.int i) (.int j) Q ↔ Q (.bool (decide (j ≤ i))) := by
  rw [show decide (j ≤ i) = !decide (i < j) by rw [← decide_not]; exact decide_eq_decide.mpr (by omega)]; exact pGe_d (α := Int) (by decide) i j Q
theorem atD_nat {α : Type} {xs : List α} {i : Int} (h : 0 ≤ i) : atD xs i = xs[i.toNat]? := by unfold atD; rw [if_pos h]
theorem isD_none (d : D) : isD d .none = match d with | .none => true | _ => false := by cases d <;> rfl
theorem mLc_of {vs : List Nat} {m : MA} {g : MG} {t : MT} {e : ME} {ρ : En} {Q : D → Prop} (f : D → Option D) (ds : List D) (hm : m ρ fun ds' => ds' = ds)
    (hmm : ∀ Q : List D → Prop, (m ρ fun ds' => ds' = ds) → Q ds → m ρ Q) (hz : ds.length ≤ sizeLine)
    (ht : ∀ (i : Nat) (d : D) (P : D → Prop) (N : Prop), ds[i]? = some d → (∀ y, f d = some y → P y) → (f d = none → N) → g d (wipeD ρ vs) fun ρ1 => t ρ1 fun c => if c = true then e ρ1 P else N)
    (hq : Q (.list (ds.filterMap f))) : mLc vs m g t e ρ Q := by
  refine hmm _ hm ⟨fun i acc => i ≤ ds.length ∧ acc = (ds.take i).filterMap f, ⟨Nat.zero_le _, rfl⟩, fun i d acc hd ⟨hi, ha⟩ => ?_, fun acc ⟨_, ha⟩ => by rw [ha, List.take_length]; exact hq⟩
  obtain ⟨hlt, he⟩ := List.getElem?_eq_some_iff.mp hd
  have hs : (ds.take (i + 1)).filterMap f = (ds.take i).filterMap f ++ (f d).toList := by
    rw [List.take_add_one, hd, List.filterMap_append]
    cases h : f d <;> simp [h]
  refine ht i d _ _ hd (fun y hy => ⟨?_, hlt, ?_⟩) (fun hn => ⟨hlt, ?_⟩)
  · rw [ha]
    exact Nat.lt_of_le_of_lt (List.length_filterMap_le _ _) (by rw [List.length_take]; omega)
  · rw [hs, hy, ha]; rfl
  · rw [hs, hn, ha]; simp
/-- over any list: the walk's own condition is shown by hm -/
theorem mLc_by {vs : List Nat} {m : MA} {g : MG} {t : MT} {e : ME} {ρ : En} {Q : D → Prop} (f : D → Option D) (ds : List D) (hz : ds.length ≤ sizeLine)
    (ht : ∀ (i : Nat) (d : D) (P : D → Prop) (N : Prop), ds[i]? = some d → (∀ y, f d = some y → P y) → (f d = none → N) → g d (wipeD ρ vs) fun ρ1 => t ρ1 fun c => if c = true then e ρ1 P else N)
    (hq : Q (.list (ds.filterMap f))) : ∃ P : Nat → List D → Prop, P 0 [] ∧
      (∀ i d acc, ds[i]? = some d → P i acc → g d (wipeD ρ vs) fun ρ1 => t ρ1 fun c => if c = true then e ρ1 fun y => acc.length < sizeLine ∧ P (i + 1) (acc ++ [y]) else P (i + 1) acc) ∧ ∀ acc, P ds.length acc → Q (.list acc) :=
  mLc_of (m := fun _ Q => Q ds) (ρ := ρ) f ds rfl (fun Q _ h => h) hz ht hq
theorem rngD_len (lo hi : Int) : (rngD lo hi).length = (hi - lo).toNat := by unfold rngD; rw [List.length_map, List.length_range]
theorem rngD_at {lo hi : Int} {i : Nat} {d : D} (h : (rngD lo hi)[i]? = some d) : d = .int (lo + i) ∧ lo + i < hi := by
  unfold rngD at h
  rw [List.getElem?_map, Option.map_eq_some_iff] at h
  obtain ⟨j, hj, rfl⟩ := h
  obtain ⟨hlt, he⟩ := List.getElem?_eq_some_iff.mp hj
  rw [List.length_range] at hlt
  rw [List.getElem_range] at he
  subst he
  exact ⟨rfl, by omega⟩
section
variable {α : Type} {vs : List Nat} {m : MA} {g : MG} {t : MT} {e : ME} {ρ : En} {Q : D → Prop}
theorem mLc_go (xs : List α) (c : α → D) (F : α → Option D) (hm : ∀ R : List D → Prop, R (xs.map c) → m ρ R) (hz : xs.length ≤ sizeLine)
    (ht : ∀ x, x ∈ xs → ∀ (P : D → Prop) (N : Prop), (∀ y, F x = some y → P y) → (F x = none → N) → g (c x) (wipeD ρ vs) fun ρ1 => t ρ1 fun b => if b = true then e ρ1 P else N)
    (hq : Q (.list (xs.filterMap F))) : mLc vs m g t e ρ Q := by
  refine hm _ ⟨fun i acc => i ≤ xs.length ∧ acc = (xs.take i).filterMap F, ⟨Nat.zero_le _, rfl⟩, fun i d acc hd ⟨hi, ha⟩ => ?_, fun acc ⟨_, ha⟩ => by rw [ha, List.length_map, List.take_length]; exact hq⟩
  rw [List.getElem?_map, Option.map_eq_some_iff] at hd
  obtain ⟨x, hx, rfl⟩ := hd
  obtain ⟨hlt, _⟩ := List.getElem?_eq_some_iff.mp hx
  have hs : (xs.take (i + 1)).filterMap F = (xs.take i).filterMap F ++ (F x).toList := by
    rw [List.take_add_one, hx, List.filterMap_append]
    cases h : F x <;> simp [h]
  refine ht x (List.mem_of_getElem? hx) _ _ (fun y hy => ⟨?_, hlt, ?_⟩) (fun hn => ⟨hlt, ?_⟩)
  · rw [ha]
    exact Nat.lt_of_le_of_lt (List.length_filterMap_le _ _) (by rw [List.length_take]; omega)
  · rw [hs, hy, ha]; rfl
  · rw [hs, hn, ha]; simp
theorem mLc_map (xs : List α) (c F : α → D) (hm : ∀ R : List D → Prop, R (xs.map c) → m ρ R) (hz : xs.length ≤ sizeLine)
    (ht : ∀ x, x ∈ xs → ∀ (P : D → Prop) (N : Prop), P (F x) → g (c x) (wipeD ρ vs) fun ρ1 => t ρ1 fun b => if b = true then e ρ1 P else N)
    (hq : Q (.list (xs.map F))) : mLc vs m g t e ρ Q :=
  mLc_go xs c (fun x => some (F x)) hm hz (fun x hx P N hp _ => ht x hx P N (hp _ rfl)) (by rw [List.filterMap_eq_map' (f := F)]; exact hq)
theorem mLc_filter (xs : List α) (c F : α → D) (p : α → Bool) (hm : ∀ R : List D → Prop, R (xs.map c) → m ρ R) (hz : xs.length ≤ sizeLine)
    (ht : ∀ x, x ∈ xs → ∀ (P : D → Prop) (N : Prop), (p x = true → P (F x)) → (p x = false → N) → g (c x) (wipeD ρ vs) fun ρ1 => t ρ1 fun b => if b = true then e ρ1 P else N)
    (hq : Q (.list ((xs.filter p).map F))) : mLc vs m g t e ρ Q :=
  mLc_go xs c (fun x => if p x = true then some (F x) else none) hm hz (fun x hx P N hp hn => ht x hx P N (fun h => hp _ (by rw [if_pos h])) fun h => hn (by rw [if_neg (by rw [h]; decide)])) (by
    have : ∀ l : List α, l.filterMap (fun x => if p x = true then some (F x) else none) = (l.filter p).map F := fun l => by
      induction l with
      | nil => rfl
      | cons y l ih => rw [List.filterMap_cons, List.filter_cons]; by_cases h : p y = true <;> simp [h, ih]
    rw [this]; exact hq)
end
theorem rngD_eq (lo hi : Int) : rngD lo hi = (List.range (hi - lo).toNat).map fun (i : Nat) => PyData.int (lo + i) := rfl
theorem allB_bools : ∀ bs : List Bool, allB (bs.map .bool) = some bs
  | [] => rfl
  | b :: bs => by rw [List.map_cons]; unfold allB; rw [allB_bools bs]; rfl
section
variable {vs : List Nat} {m : MA} {g : MG} {t : MT} {e : ME} {ρ : En} {Q : D → Prop}
theorem mLc_rngm (lo hi : Int) (F : Nat → D) (hm : ∀ R : List D → Prop, R (rngD lo hi) → m ρ R) (hz : hi - lo ≤ 16777216)
    (ht : ∀ i : Nat, lo + i < hi → ∀ (P : D → Prop) (N : Prop), P (F i) → g (.int (lo + i)) (wipeD ρ vs) fun ρ1 => t ρ1 fun b => if b = true then e ρ1 P else N)
    (hq : Q (.list ((List.range (hi - lo).toNat).map F))) : mLc vs m g t e ρ Q :=
  mLc_map (List.range (hi - lo).toNat) (fun i => .int (lo + i)) F (fun R hR => hm R hR) (by rw [List.length_range, sizeLine_eq]; omega) (fun i hi' P N hp => ht i (by have := List.mem_range.mp hi'; omega) P N hp) hq
theorem mLc_rngf (lo hi : Int) (F : Nat → D) (p : Nat → Bool) (hm : ∀ R : List D → Prop, R (rngD lo hi) → m ρ R) (hz : hi - lo ≤ 16777216)
    (ht : ∀ i : Nat, lo + i < hi → ∀ (P : D → Prop) (N : Prop), (p i = true → P (F i)) → (p i = false → N) → g (.int (lo + i)) (wipeD ρ vs) fun ρ1 => t ρ1 fun b => if b = true then e ρ1 P else N)
    (hq : Q (.list (((List.range (hi - lo).toNat).filter p).map F))) : mLc vs m g t e ρ Q :=
  mLc_filter (List.range (hi - lo).toNat) (fun i => .int (lo + i)) F p (fun R hR => hm R hR) (by rw [List.length_range, sizeLine_eq]; omega) (fun i hi' P N hp hn => ht i (by have := List.mem_range.mp hi'; omega) P N hp hn) hq
end
theorem rngOk_of {i : Int} (h1 : -1000000000000 ≤ i) (h2 : i ≤ 1000000000000) : rngOk i := ⟨by omega, by omega⟩
theorem smallI_of {i : Int} (h1 : -1000000000000 ≤ i) (h2 : i ≤ 1000000000000) : smallI i := ⟨by omega, by omega⟩
section
variable {α : Type} {m : MA} {g : MG} {b : MS} {ρ : En} {M : MEnds}
theorem sFor_go (xs : List α) (c : α → D) (P : Nat → En → Prop) (hm : ∀ R : List D → Prop, R (xs.map c) → m ρ R) (h0 : P 0 ρ)
    (hs : ∀ (i : Nat) (x : α) (ρ' : En), xs[i]? = some x → P i ρ' → g (c x) ρ' fun ρ1 => b { M with nx := P (i + 1), ct := P (i + 1), bk := M.nx } ρ1) (hd : ∀ ρ', P xs.length ρ' → M.nx ρ') : sFor m g b M ρ := by
  refine hm _ ⟨P, h0, fun i d ρ' h hp => ?_, fun ρ' hp => hd ρ' (by rw [List.length_map] at hp; exact hp)⟩
  rw [List.getElem?_map, Option.map_eq_some_iff] at h
  obtain ⟨x, hx, rfl⟩ := h
  exact hs i x ρ' hx hp
theorem sFor_rng (lo hi : Int) (P : Nat → En → Prop) (hm : ∀ R : List D → Prop, R (rngD lo hi) → m ρ R) (h0 : P 0 ρ)
    (hs : ∀ (i : Nat) (ρ' : En), lo + i < hi → P i ρ' → g (.int (lo + i)) ρ' fun ρ1 => b { M with nx := P (i + 1), ct := P (i + 1), bk := M.nx } ρ1) (hd : ∀ ρ', P (hi - lo).toNat ρ' → M.nx ρ') : sFor m g b M ρ :=
  sFor_go (List.range (hi - lo).toNat) (fun i => .int (lo + i)) P (fun R hR => hm R hR) h0 (fun i x ρ' h hp => by
    obtain ⟨hlt, e⟩ := List.getElem?_eq_some_iff.mp h
    rw [List.length_range] at hlt
    rw [List.getElem_range] at e
    subst e
    exact hs i ρ' (by omega) hp) (fun ρ' hp => hd ρ' (by rw [List.length_range] at hp; exact hp))
end
abbrev natD (n : Nat) : D := .int (n : Int)
/-- one statement; what follows stays closed -/
theorem seq_gen {s1 s2 : MS} {M : MEnds} {ρ : En} (h : ∀ N : En → Prop, N = s2 M → s1 { M with nx := N } ρ) : sSeq s1 s2 M ρ := h _ rfl
theorem atD_last {α : Type} (xs : List α) (x : α) : atD (xs ++ [x]) (-1) = some x := by
  unfold atD
  rw [if_neg (by decide), List.length_append, List.length_singleton, if_pos (by omega), show ((-1 : Int) + ((xs.length + 1 : Nat) : Int)).toNat = xs.length by omega]
  rw [List.getElem?_append_right (Nat.le_refl _), Nat.sub_self]; rfl
theorem stepN_cov {i j c : Int} (hc : 0 < c) (h : i < j) : j ≤ i + (stepN i j c : Int) * c := by
  unfold stepN
  rw [if_pos h]
  have h0 : 0 ≤ (j - i - 1) / c := Int.ediv_nonneg (by omega) (by omega)
  rw [Int.toNat_of_nonneg (by omega)]
  have := Int.lt_ediv_add_one_mul_self (j - i - 1) hc
  omega
theorem stepN_lt {i j c : Int} {k : Nat} (hc : 0 < c) (h : k < stepN i j c) : i + (k : Int) * c < j := by
  unfold stepN at h
  split at h
  · have h0 : 0 ≤ (j - i - 1) / c := Int.ediv_nonneg (by omega) (by omega)
    have h1 : (k : Int) ≤ (j - i - 1) / c := by omega
    have h2 := Int.mul_le_mul_of_nonneg_right h1 (by omega : 0 ≤ c)
    have h3 := Int.ediv_mul_le (j - i - 1) (by omega : c ≠ 0)
    omega
  · omega
theorem stepN_le {i j c : Int} (hc : 0 < c) : (stepN i j c : Int) ≤ max 0 (j - i) := by
  unfold stepN
  split
  · have h0 : 0 ≤ (j - i - 1) / c := Int.ediv_nonneg (by omega) (by omega)
    have h1 : (j - i - 1) / c ≤ j - i - 1 := Int.ediv_le_self _ (by omega)
    omega
  · omega
end PyD
namespace PyD
open PySem PySem.Spec L2 PySem.W
open PyProof.Rows hiding St
mutual
def sameD : D → D → Bool
  | .tuple xs, .tuple ys => decide (xs.length = ys.length) && sameAll xs ys
  | .list xs, .list ys => decide (xs.length = ys.length) && sameAll xs ys
  | .bool a, .bool b => decide (a = b)
  | .int a, .int b => decide (a = b)
  | .str a, .str b => decide (a = b)
  | .none, .none => true
  | _, _ => false
def sameAll : List D → List D → Bool
  | x :: xs, y :: ys => sameD x y && sameAll xs ys
  | _, _ => true
end
mutual
theorem sameD_refl : ∀ d : D, d.plain = true → sameD d d = true
  | .tuple xs, h => by unfold sameD; rw [sameAll_refl xs (by simpa [PyData.plain] using h)]; simp
  | .list xs, h => by unfold sameD; rw [sameAll_refl xs (by simpa [PyData.plain] using h)]; simp
  | .bool a, _ => by simp [sameD]
  | .int a, _ => by simp [sameD]
  | .str a, _ => by simp [sameD]
  | .none, _ => rfl
  | .dict _, h => by cases h
theorem sameAll_refl : ∀ xs : List D, PyData.plainAll xs = true → sameAll xs xs = true
  | [], _ => rfl
  | x :: xs, h => by
    have h' : x.plain = true ∧ PyData.plainAll xs = true := by simpa [PyData.plainAll] using h
    unfold sameAll; rw [sameD_refl x h'.1, sameAll_refl xs h'.2]; rfl
end
theorem sameAll_at : ∀ xs ys : List D, xs.length = ys.length → sameAll xs ys = (List.range xs.length).all fun k => sameD (xs.getD k .none) (ys.getD k .none)
  | [], [], _ => rfl
  | x :: xs, y :: ys, h => by
    unfold sameAll
    rw [sameAll_at xs ys (by simpa using h), List.length_cons, List.range_succ_eq_map, List.all_cons, List.all_map]
    rfl
  | [], _ :: _, h => by simp at h
  | _ :: _, [], h => by simp at h
def fSame : Nat → MF
  | 0 => fun _ _ => False
  | n + 1 => fun ds Q => ∃ x y : D, ds = [x, y] ∧ x.plain = true ∧ y.plain = true ∧ x.depth ≤ n ∧ y.depth ≤ n ∧ Q (.bool (sameD x y))
theorem fSame_depth {x : D} {xs : List D} {n : Nat} (h : PyData.depthAll xs ≤ n) (hx : x ∈ xs) : x.depth ≤ n := Nat.le_trans (depth_mem hx) h
theorem plain_memD {x : D} : ∀ {xs : List D}, PyData.plainAll xs = true → x ∈ xs → x.plain = true
  | y :: ys, h, hx => by
    have h' : y.plain = true ∧ PyData.plainAll ys = true := by simpa [PyData.plainAll] using h
    rcases List.mem_cons.mp hx with rfl | hx
    · exact h'.1
    · exact plain_memD h'.2 hx
theorem fnOk_false {P : Program} {w : World} {K : PySem.W.Frag} {mg : Str → Option Value} {base : Heap} {f : Addr} {fd : FuncData} {ps : List Str} {k n : Nat} : FnOk P w K mg base CX0 k f fd ps (spD K n fun _ _ => False) :=
  ⟨fun _ _ _ _ ⟨_, _, _, _, _, h, _⟩ => h.elim, fun _ _ _ _ _ _ _ _ _ _ _ _ _ ⟨_, _, _, _, _, h, _⟩ => h.elim⟩
/-- the heart of the two sequence cases -/
theorem same_seq {xs ys : List D} {n : Nat} {Q : D → Prop} (px : PyData.plainAll xs = true) (py : PyData.plainAll ys = true) (dx : PyData.depthAll xs + 1 ≤ n) (dy : PyData.depthAll ys + 1 ≤ n) (h : xs.length = ys.length) (k : Nat) (hk : k < xs.length) :
    ∃ x y, xs[k]? = some x ∧ ys[k]? = some y ∧ x.plain = true ∧ y.plain = true ∧ x.depth ≤ n - 1 ∧ y.depth ≤ n - 1 ∧ x = xs.getD k .none ∧ y = ys.getD k .none :=
  ⟨xs[k], ys[k], List.getElem?_eq_getElem hk, List.getElem?_eq_getElem (h ▸ hk), plain_memD px (List.getElem_mem hk), plain_memD py (List.getElem_mem _), Nat.le_trans (depth_mem (List.getElem_mem hk)) (by omega), Nat.le_trans (depth_mem (List.getElem_mem _)) (by omega), by simp [List.getD, List.getElem?_eq_getElem hk], by simp [List.getD, List.getElem?_eq_getElem (h ▸ hk)]⟩
/-- len of a list or tuple, with its bound -/
def pLenB : List D → (D → Prop) → Prop
  | [.list xs], Q => xs.length ≤ 16777216 → Q (.int xs.length)
  | [.tuple xs], Q => xs.length ≤ 16777216 → Q (.int xs.length)
  | _, _ => False
theorem r_lenB {X : Cx} : RnD X (.builtin "len") pLenB := by
  intro I W pins s σ H ρ xs us ds Qd Q Iv ok S rv tv hp fin
  unfold pLenB at hp
  split at hp
  · obtain ⟨x, rfl, t⟩ := tv.one
    obtain ⟨a, xs, rfl, r, z, ra⟩ := t.list
    rw [sizeLine_eq, ra.len] at z
    exact call_len_seq _ _ _ _ _ _ _ Iv rv ⟨a, xs, rfl, .inl (S.sqL r), fin.here S (.int _) (by rw [ra.len]; exact hp z)⟩
  · obtain ⟨x, rfl, t⟩ := tv.one
    obtain ⟨a, xs, rfl, r, z, ra⟩ := t.tuple
    rw [sizeLine_eq, ra.len] at z
    exact call_len_seq _ _ _ _ _ _ _ Iv rv ⟨a, xs, rfl, .inr (S.sqT r), fin.here S (.int _) (by rw [ra.len]; exact hp z)⟩
  · exact hp.elim
theorem isa_NoneType_tuple : isaB "NoneType" "tuple" = false := by decide
theorem isa_NoneType_list : isaB "NoneType" "list" = false := by decide
theorem isa_NoneType_bool : isaB "NoneType" "bool" = false := by decide
theorem isa_NoneType_int : isaB "NoneType" "int" = false := by decide
theorem isa_NoneType_str : isaB "NoneType" "str" = false := by decide
theorem isa_NoneType_dict : isaB "NoneType" "dict" = false := by decide
theorem isa_bool_tuple : isaB "bool" "tuple" = false := by decide
theorem isa_bool_list : isaB "bool" "list" = false := by decide
theorem isa_bool_bool : isaB "bool" "bool" = true := by decide
theorem isa_bool_int : isaB "bool" "int" = true := by decide
theorem isa_bool_str : isaB "bool" "str" = false := by decide
theorem isa_bool_dict : isaB "bool" "dict" = false := by decide
theorem isa_int_tuple : isaB "int" "tuple" = false := by decide
theorem isa_int_list : isaB "int" "list" = false := by decide
theorem isa_int_bool : isaB "int" "bool" = false := by decide
theorem isa_int_int : isaB "int" "int" = true := by decide
theorem isa_int_str : isaB "int" "str" = false := by decide
theorem isa_int_dict : isaB "int" "dict" = false := by decide
theorem isa_str_tuple : isaB "str" "tuple" = false := by decide
theorem isa_str_list : isaB "str" "list" = false := by decide
theorem isa_str_bool : isaB "str" "bool" = false := by decide
theorem isa_str_int : isaB "str" "int" = false := by decide
theorem isa_str_str : isaB "str" "str" = true := by decide
theorem isa_str_dict : isaB "str" "dict" = false := by decide
theorem isa_list_tuple : isaB "list" "tuple" = false := by decide
theorem isa_list_list : isaB "list" "list" = true := by decide
theorem isa_list_bool : isaB "list" "bool" = false := by decide
theorem isa_list_int : isaB "list" "int" = false := by decide
theorem isa_list_str : isaB "list" "str" = false := by decide
theorem isa_list_dict : isaB "list" "dict" = false := by decide
theorem isa_tuple_tuple : isaB "tuple" "tuple" = true := by decide
theorem isa_tuple_list : isaB "tuple" "list" = false := by decide
theorem isa_tuple_bool : isaB "tuple" "bool" = false := by decide
theorem isa_tuple_int : isaB "tuple" "int" = false := by decide
theorem isa_tuple_str : isaB "tuple" "str" = false := by decide
theorem isa_tuple_dict : isaB "tuple" "dict" = false := by decide
theorem isa_dict_tuple : isaB "dict" "tuple" = false := by decide
theorem isa_dict_list : isaB "dict" "list" = false := by decide
theorem isa_dict_bool : isaB "dict" "bool" = false := by decide
theorem isa_dict_int : isaB "dict" "int" = false := by decide
theorem isa_dict_str : isaB "dict" "str" = false := by decide
theorem isa_dict_dict : isaB "dict" "dict" = true := by decide
theorem same_true {x y : D} {n : Nat} {Q : D → Prop} (h : x = y) (p : x.plain = true) (d : x.depth ≤ n) (q : Q (.bool true)) : fSame (n + 1) [x, y] Q := by
  subst h
  exact ⟨x, x, rfl, p, p, d, d, by rw [sameD_refl x p]; exact q⟩
theorem small_size {n : Nat} (h : n ≤ 1000000) : n ≤ sizeLine := by rw [sizeLine_eq]; omega
end PyD
namespace PyD
open PySem PySem.Spec L2 PySem.W
open PyProof.Rows hiding St
section
variable {κ β : Type} [DecidableEq κ]
def aget (es : List (κ × β)) (k : κ) : Option β := (es.find? fun p => decide (p.1 = k)).map (·.2)
def aput (es : List (κ × β)) (k : κ) (v : β) : List (κ × β) := if (es.any fun p => decide (p.1 = k)) = true then es.map (fun p => if p.1 = k then (p.1, v) else p) else es ++ [(k, v)]
theorem aget_nil (k : κ) : aget ([] : List (κ × β)) k = none := rfl
theorem aget_cons (p : κ × β) (es : List (κ × β)) (k : κ) : aget (p :: es) k = if p.1 = k then some p.2 else aget es k := by
  unfold aget
  rw [List.find?_cons]
  by_cases h : p.1 = k
  · simp [h]
  · simp [h]
theorem aget_any (es : List (κ × β)) (k : κ) : (es.any fun p => decide (p.1 = k)) = (aget es k).isSome := by
  induction es with
  | nil => rfl
  | cons p es ih =>
    rw [List.any_cons, aget_cons, ih]
    by_cases h : p.1 = k <;> simp [h]
theorem aget_app (a b : List (κ × β)) (k : κ) : aget (a ++ b) k = (aget a k).or (aget b k) := by
  induction a with
  | nil => rfl
  | cons p a ih =>
    rw [List.cons_append, aget_cons, aget_cons, ih]
    by_cases h : p.1 = k <;> simp [h]
theorem aget_upd (es : List (κ × β)) (k j : κ) (v : β) : aget (es.map fun p => if p.1 = k then (p.1, v) else p) j = if j = k then (aget es j).map fun _ => v else aget es j := by
  induction es with
  | nil => simp [aget_nil]
  | cons p es ih =>
    rw [List.map_cons, aget_cons, aget_cons, ih]
    by_cases h : p.1 = k
    · rw [if_pos h]
      by_cases e : p.1 = j
      · rw [if_pos e, if_pos e, if_pos (e.symm.trans h)]; rfl
      · rw [if_neg e, if_neg e]
    · rw [if_neg h]
      by_cases e : p.1 = j
      · rw [if_pos e, if_pos e, if_neg (fun z => h (e.trans z))]
      · rw [if_neg e, if_neg e]
theorem aget_aput (es : List (κ × β)) (k j : κ) (v : β) : aget (aput es k v) j = if j = k then some v else aget es j := by
  unfold aput
  by_cases h : (es.any fun p => decide (p.1 = k)) = true
  · rw [if_pos h, aget_upd]
    by_cases e : j = k
    · subst e
      rw [aget_any] at h
      obtain ⟨x, hx⟩ := Option.isSome_iff_exists.mp h
      rw [if_pos rfl, if_pos rfl, hx]; rfl
    · rw [if_neg e, if_neg e]
  · rw [if_neg h, aget_app, aget_cons, aget_nil]
    by_cases e : j = k
    · subst e
      rw [aget_any] at h
      cases hx : aget es j with
      | none => simp
      | some x => rw [hx] at h; exact absurd rfl h
    · rw [if_neg (fun z => e z.symm), if_neg e]; simp
theorem aput_keys (es : List (κ × β)) (k : κ) (v : β) : (aput es k v).map (·.1) = if (aget es k).isSome = true then es.map (·.1) else es.map (·.1) ++ [k] := by
  unfold aput
  rw [aget_any]
  by_cases h : (aget es k).isSome = true
  · rw [if_pos h, if_pos h, List.map_map]
    apply List.map_congr_left
    intro p _
    show (if p.1 = k then (p.1, v) else p).1 = p.1
    split <;> rfl
  · rw [if_neg h, if_neg h, List.map_append]; rfl
theorem aput_len (es : List (κ × β)) (k : κ) (v : β) : (aput es k v).length = if (aget es k).isSome = true then es.length else es.length + 1 := by
  have := congrArg List.length (aput_keys es k v)
  rw [List.length_map] at this
  rw [this]
  split <;> simp
theorem aget_mem {es : List (κ × β)} {k : κ} {v : β} (h : aget es k = some v) : (k, v) ∈ es := by
  unfold aget at h
  rw [Option.map_eq_some_iff] at h
  obtain ⟨p, hp, rfl⟩ := h
  have h1 := List.mem_of_find?_eq_some hp
  have h2 := List.find?_some hp
  rw [decide_eq_true_eq] at h2
  rw [← h2]; exact h1
theorem aget_key {es : List (κ × β)} {k : κ} : (aget es k).isSome = true ↔ k ∈ es.map (·.1) := by
  rw [← aget_any, List.any_eq_true]
  constructor
  · rintro ⟨p, hp, he⟩
    rw [decide_eq_true_eq] at he
    exact List.mem_map.mpr ⟨p, hp, he⟩
  · intro h
    obtain ⟨p, hp, he⟩ := List.mem_map.mp h
    exact ⟨p, hp, decide_eq_true he⟩
theorem aget_of_mem {es : List (κ × β)} (nd : (es.map (·.1)).Nodup) {k : κ} {v : β} (h : (k, v) ∈ es) : aget es k = some v := by
  induction es with
  | nil => cases h
  | cons p es ih =>
    rw [List.map_cons, List.nodup_cons] at nd
    rw [aget_cons]
    rcases List.mem_cons.mp h with e | h
    · rw [← e, if_pos rfl]
    · rw [if_neg fun (z : p.1 = k) => nd.1 (by rw [z]; exact List.mem_map.mpr ⟨_, h, rfl⟩)]
      exact ih nd.2 h
theorem aput_nodup {es : List (κ × β)} (nd : (es.map (·.1)).Nodup) (k : κ) (v : β) : ((aput es k v).map (·.1)).Nodup := by
  rw [aput_keys]
  by_cases h : (aget es k).isSome = true
  · rw [if_pos h]; exact nd
  · rw [if_neg h]
    refine List.nodup_append.mpr ⟨nd, by simp, fun a ha b hb => ?_⟩
    rw [List.mem_singleton] at hb
    rintro rfl
    subst hb
    exact h (aget_key.mpr ha)
section
variable (ck : κ → D) (cv : β → D)
abbrev encP (p : κ × β) : D × D := (ck p.1, cv p.2)
variable (hk : ∀ k j, PyData.eqv (ck k) (ck j) = decide (k = j))
include hk
theorem dget_map (es : List (κ × β)) (k : κ) : dget (es.map (encP ck cv)) (ck k) = (aget es k).map cv := by
  induction es with
  | nil => rfl
  | cons p es ih =>
    rw [List.map_cons, aget_cons]
    unfold dget at ih ⊢
    rw [List.find?_cons, show PyData.eqv (encP ck cv p).1 (ck k) = decide (p.1 = k) from hk _ _]
    by_cases h : p.1 = k
    · rw [decide_eq_true h, if_pos h]; rfl
    · rw [decide_eq_false h, if_neg h]; exact ih
theorem dput_map (es : List (κ × β)) (k : κ) (v : β) : dput (es.map (encP ck cv)) (ck k) (cv v) = (aput es k v).map (encP ck cv) := by
  unfold dput aput
  have e : ((es.map (encP ck cv)).any fun p => PyData.eqv p.1 (ck k)) = es.any fun p => decide (p.1 = k) := by
    rw [List.any_map]
    congr 1
    funext p
    exact hk _ _
  rw [e]
  by_cases h : (es.any fun p => decide (p.1 = k)) = true
  · rw [if_pos h, if_pos h, List.map_map, List.map_map]
    apply List.map_congr_left
    intro p _
    show (if PyData.eqv (encP ck cv p).1 (ck k) = true then ((encP ck cv p).1, cv v) else encP ck cv p) = encP ck cv (if p.1 = k then (p.1, v) else p)
    rw [show PyData.eqv (encP ck cv p).1 (ck k) = decide (p.1 = k) from hk _ _]
    by_cases q : p.1 = k
    · rw [if_pos (decide_eq_true q), if_pos q]
    · rw [if_neg (by simp [q]), if_neg q]
  · rw [if_neg h, if_neg h, List.map_append]; rfl
theorem keys_any (ks : List κ) (k : κ) : ((ks.map ck).any fun y => PyData.eqv y (ck k)) = decide (k ∈ ks) := by
  rw [List.any_map]
  induction ks with
  | nil => rfl
  | cons j ks ih =>
    rw [List.any_cons, ih]
    show (PyData.eqv (ck j) (ck k) || _) = _
    rw [hk]
    by_cases h : j = k
    · simp [h]
    · simp only [decide_eq_false h, Bool.false_or, List.mem_cons]
      exact decide_eq_decide.mpr ⟨.inr, fun z => z.resolve_left fun q => h q.symm⟩
end
end
theorem eqv_nat (i j : Nat) : PyData.eqv (natD i) (natD j) = decide (i = j) := by
  have := Datum.eqv (α := Int) (i : Int) (j : Int)
  rw [show PyData.eqv (natD i) (natD j) = _ from this]
  exact decide_eq_decide.mpr (by omega)
def dN (es : List (Nat × Nat)) : D := dK (es.map (encP natD natD))
theorem hasD_dN {i : Nat} {ρ : En} {es : List (Nat × Nat)} (h : ρ[i]? = some (some (dN es))) : hasD i ρ := ⟨_, h⟩
theorem pIx_dN (es : List (Nat × Nat)) (k : Nat) (Q : D → Prop) : pIx (dN es) (.int (k : Int)) Q ↔ ∃ v, aget es k = some v ∧ Q (.int (v : Int)) := by
  show (isKeyK (natD k) = true ∧ ∃ d, dget (es.map (encP natD natD)) (natD k) = some d ∧ Q d) ↔ _
  rw [dget_map natD natD eqv_nat]
  constructor
  · rintro ⟨_, d, h, q⟩
    rw [Option.map_eq_some_iff] at h
    obtain ⟨v, hv, rfl⟩ := h
    exact ⟨v, hv, q⟩
  · rintro ⟨v, hv, q⟩
    exact ⟨rfl, _, by rw [hv]; rfl, q⟩
theorem pIn_dN (es : List (Nat × Nat)) (k : Nat) (Q : D → Prop) : pIn (.int (k : Int)) (dN es) Q ↔ Q (.bool (aget es k).isSome) := by
  show (isKeyK (natD k) = true ∧ Q (.bool (dget (es.map (encP natD natD)) (natD k)).isSome)) ↔ _
  rw [dget_map natD natD eqv_nat, Option.isSome_map]
  exact ⟨fun h => h.2, fun h => ⟨rfl, h⟩⟩
theorem pNotIn_dN (es : List (Nat × Nat)) (k : Nat) (Q : D → Prop) : pNotIn (.int (k : Int)) (dN es) Q ↔ Q (.bool (!(aget es k).isSome)) := by
  show (isKeyK (natD k) = true ∧ Q (.bool (!(dget (es.map (encP natD natD)) (natD k)).isSome))) ↔ _
  rw [dget_map natD natD eqv_nat, Option.isSome_map]
  exact ⟨fun h => h.2, fun h => ⟨rfl, h⟩⟩
theorem pSetK_dN (es : List (Nat × Nat)) (k v : Nat) (Q : D → Prop) : pSetK (dN es) (.int (k : Int)) (.int (v : Int)) Q ↔ es.length < sizeLine ∧ Q (dN (aput es k v)) := by
  show (isKeyK (natD k) = true ∧ (es.map (encP natD natD)).length < sizeLine ∧ Q (dK (dput (es.map (encP natD natD)) (natD k) (natD v)))) ↔ _
  rw [dput_map natD natD eqv_nat, List.length_map]
  exact ⟨fun h => h.2, fun h => ⟨rfl, h⟩⟩
theorem pLen_dN (es : List (Nat × Nat)) (Q : D → Prop) : pLen [dN es] Q ↔ Q (.int es.length) := by
  show Q (.int ((es.map (encP natD natD)).length : Nat)) ↔ _
  rw [List.length_map]
theorem aKeys_dN {i : Nat} {ρ : En} {es : List (Nat × Nat)} (h : ρ[i]? = some (some (dN es))) {Q : List D → Prop} (hq : Q (es.map fun p => natD p.1)) : aKeys i ρ Q := by
  unfold aKeys
  rw [h]
  show Q ((es.map (encP natD natD)).map (·.1))
  rw [List.map_map]
  exact hq
/-- the least of pairs, by the first -/
theorem minOf_pair (x : Int × Int) (xs : List (Int × Int)) : minOf x xs ∈ x :: xs ∧ ∀ y ∈ x :: xs, (minOf x xs).1 ≤ y.1 := by
  unfold minOf
  induction xs generalizing x with
  | nil => exact ⟨List.mem_cons_self, fun y hy => by rw [List.mem_singleton] at hy; rw [hy]; exact Int.le_refl _⟩
  | cons z xs ih =>
    rw [List.foldl_cons]
    obtain ⟨h1, h2⟩ := ih (if DatumOrd.lt z x = true then z else x)
    have hx : (if DatumOrd.lt z x = true then z else x).1 ≤ x.1 ∧ (if DatumOrd.lt z x = true then z else x).1 ≤ z.1 := by
      have e : DatumOrd.lt z x = if z.1 = x.1 then decide (z.2 < x.2) else decide (z.1 < x.1) := rfl
      rw [e]
      by_cases q : z.1 = x.1
      · rw [if_pos q]; split <;> constructor <;> omega
      · rw [if_neg q]
        by_cases w : z.1 < x.1
        · rw [decide_eq_true w, if_pos rfl]; constructor <;> omega
        · rw [decide_eq_false w, if_neg (by decide)]; constructor <;> omega
    refine ⟨?_, fun y hy => ?_⟩
    · rcases List.mem_cons.mp h1 with h | h
      · rw [h]; split
        · exact List.mem_cons_of_mem _ List.mem_cons_self
        · exact List.mem_cons_self
      · exact List.mem_cons_of_mem _ (List.mem_cons_of_mem _ h)
    · have h0 := h2 _ List.mem_cons_self
      rcases List.mem_cons.mp hy with rfl | hy
      · exact Int.le_trans h0 hx.1
      · rcases List.mem_cons.mp hy with rfl | hy
        · exact Int.le_trans h0 hx.2
        · exact h2 y (List.mem_cons_of_mem _ hy)
theorem cutD_tail (x : D) (xs : List D) : cutD (x :: xs) (some 1) none = xs := by
  unfold cutD
  rw [show HT.sIx (x :: xs).length 0 (some 1) = min 1 (x :: xs).length from HT.sIx_nat _ 0 1, HT.sIx_none, show min 1 (x :: xs).length = 1 by rw [List.length_cons]; omega]
  show (List.drop 1 (x :: xs)).take ((x :: xs).length - 1) = xs
  rw [List.length_cons, Nat.add_sub_cancel]
  exact List.take_length
theorem maxOf_int (x : Int) (xs : List Int) : maxOf x xs ∈ x :: xs ∧ ∀ y ∈ x :: xs, y ≤ maxOf x xs := by
  unfold maxOf
  induction xs generalizing x with
  | nil => exact ⟨List.mem_cons_self, fun y hy => by rw [List.mem_singleton] at hy; rw [hy]; exact Int.le_refl _⟩
  | cons z xs ih =>
    rw [List.foldl_cons]
    have e : DatumOrd.lt x z = decide (x < z) := rfl
    obtain ⟨h1, h2⟩ := ih (if DatumOrd.lt x z = true then z else x)
    have hx : x ≤ (if DatumOrd.lt x z = true then z else x) ∧ z ≤ (if DatumOrd.lt x z = true then z else x) := by
      rw [e]; by_cases w : x < z
      · rw [decide_eq_true w, if_pos rfl]; omega
      · rw [decide_eq_false w, if_neg (by decide)]; omega
    refine ⟨?_, fun y hy => ?_⟩
    · rcases List.mem_cons.mp h1 with h | h
      · rw [h]; split
        · exact List.mem_cons_of_mem _ List.mem_cons_self
        · exact List.mem_cons_self
      · exact List.mem_cons_of_mem _ (List.mem_cons_of_mem _ h)
    · have h0 := h2 _ List.mem_cons_self
      rcases List.mem_cons.mp hy with rfl | hy
      · exact Int.le_trans hx.1 h0
      · rcases List.mem_cons.mp hy with rfl | hy
        · exact Int.le_trans hx.2 h0
        · exact h2 y (List.mem_cons_of_mem _ hy)
/-- max of ints, by what it is -/
theorem pMax_ints {c : List D → D} (hc : (∀ ds, c ds = .list ds) ∨ (∀ ds, c ds = .tuple ds)) (xs : List Int) (hx : xs ≠ []) (Q : D → Prop) (h : ∀ m, m ∈ xs → (∀ y ∈ xs, y ≤ m) → Q (.int m)) : pMax [c (xs.map .int)] Q := by
  cases xs with
  | nil => exact absurd rfl hx
  | cons x xs =>
    obtain ⟨h1, h2⟩ := maxOf_int x xs
    have q : MinOk (.int x) (xs.map .int) ∧ Q (maxD (.int x) (xs.map .int)) := by
      refine ⟨minOk_d (α := Int) (by decide) x xs, ?_⟩
      rw [show maxD (.int x) (xs.map .int) = .int (maxOf x xs) from maxD_map (α := Int) x xs]
      exact h _ h1 h2
    rcases hc with hc | hc <;> rw [hc] <;> exact q
section
variable {α : Type} [DecidableEq α] [DatumOrd α]
theorem dataLe_d (a b : α) : dataLe false (fun d : D => d) (Datum.toD a) (Datum.toD b) = !DatumOrd.lt b a := by
  rw [← DatumOrd.lt_eq]; rfl
theorem sortD_map (xs : List α) : sortD (xs.map Datum.toD) = (xs.mergeSort fun a b => !DatumOrd.lt b a).map Datum.toD := by
  unfold sortD
  exact (List.map_mergeSort (fun a _ b _ => (dataLe_d a b).symm)).symm
end
theorem sortOk_nats (ks : List Nat) : SortOk (ks.map natD) := by
  have e : ks.map natD = (ks.map fun k => ((k : Nat) : Int)).map .int := by rw [List.map_map]; rfl
  rw [e]
  refine ⟨AllAlike.of fun b b' => ?_, Sortable.others fun b => ⟨(fun h => nomatch h), (fun xs h => nomatch h)⟩, plainAll_map (α := Int) _, Nat.le_trans (depthAll_map (α := Int) _) (by decide)⟩
  exact DatumOrd.alike (α := Int) b b'
theorem sortD_nats (ks : List Nat) : ∃ ls : List Nat, sortD (ks.map natD) = ls.map natD ∧ ls.Perm ks ∧ ls.Pairwise (· ≤ ·) := by
  refine ⟨ks.mergeSort fun a b => decide (a ≤ b), ?_, List.mergeSort_perm _ _, ?_⟩
  · unfold sortD
    refine (List.map_mergeSort fun a _ b _ => ?_).symm
    rw [show dataLe false (fun d : D => d) (natD a) (natD b) = !DatumOrd.lt (α := Int) (b : Int) (a : Int) from dataLe_d (α := Int) _ _]
    show decide (a ≤ b) = !decide ((b : Int) < a)
    rw [← decide_not]; exact decide_eq_decide.mpr (by omega)
  · have := List.pairwise_mergeSort (le := fun a b : Nat => decide (a ≤ b)) (fun a b c h1 h2 => by simp at *; omega) (fun a b => by simp; omega) ks
    exact this.imp fun h => by simpa using h
/-- dict([(v, 1), ..]): its keys -/
theorem mergeD_ones (vs : List Nat) (one : D) : ∃ ks : List Nat, mergeD [] (vs.map fun v => (natD v, one)) = ks.map (fun k => (natD k, one)) ∧ ks.Nodup ∧ ∀ x, x ∈ ks ↔ x ∈ vs := by
  have go : ∀ (vs : List Nat) (es : List (Nat × Unit)), (es.map (·.1)).Nodup → ∃ fs : List (Nat × Unit), mergeD (es.map fun p => (natD p.1, one)) (vs.map fun v => (natD v, one)) = fs.map (fun p => (natD p.1, one)) ∧ (fs.map (·.1)).Nodup ∧ ∀ x, x ∈ fs.map (·.1) ↔ x ∈ es.map (·.1) ∨ x ∈ vs := by
    intro vs
    induction vs with
    | nil => intro es nd; exact ⟨es, rfl, nd, fun x => by simp⟩
    | cons v vs ih =>
      intro es nd
      obtain ⟨fs, h1, h2, h3⟩ := ih (aput es v ()) (aput_nodup nd v ())
      refine ⟨fs, ?_, h2, fun x => ?_⟩
      · rw [← h1, List.map_cons]
        show mergeD (dput (es.map fun p => (natD p.1, one)) (natD v) one) _ = _
        rw [show dput (es.map fun p => (natD p.1, one)) (natD v) one = (aput es v ()).map (fun p => (natD p.1, one)) from dput_map natD (fun _ : Unit => one) eqv_nat es v ()]
      · rw [h3, aput_keys]
        by_cases hm : (aget es v).isSome = true
        · rw [if_pos hm, List.mem_cons]
          exact ⟨fun h => h.imp id .inr, fun h => by
            rcases h with h | rfl | h
            · exact .inl h
            · exact .inl (aget_key.mp hm)
            · exact .inr h⟩
        · rw [if_neg hm, List.mem_append, List.mem_singleton, List.mem_cons, or_assoc]
  obtain ⟨fs, h1, h2, h3⟩ := go vs [] List.nodup_nil
  exact ⟨fs.map (·.1), by rw [List.map_map]; exact h1, h2, fun x => by rw [h3]; simp⟩
theorem pairsOf_map (vs : List Nat) (one : D) : pairsOf (vs.map fun v => .tuple [natD v, one]) = some (vs.map fun v => (natD v, one)) := by
  induction vs with
  | nil => rfl
  | cons v vs ih => rw [List.map_cons, List.map_cons]; unfold pairsOf; rw [ih]; rfl
/-- sorted(dict([(v, 1), ..])) -/
theorem sorted_dict {vs : List Nat} {one : D} {Q : D → Prop} (h : ∀ ls : List Nat, ls.Pairwise (· < ·) → (∀ x, x ∈ ls ↔ x ∈ vs) → Q (.list (ls.map natD))) : pDictP [.list (vs.map fun v => .tuple [natD v, one])] fun d => pSorted [d] Q := by
  unfold pDictP
  simp only
  rw [pairsOf_map]
  simp only
  refine ⟨by simp [List.all_map]; intros; rfl, ?_⟩
  obtain ⟨ks, e, nd, hm⟩ := mergeD_ones vs one
  rw [e]
  obtain ⟨ls, e2, hp, hs⟩ := sortD_nats ks
  refine ⟨ks.map natD, by unfold itemsD; simp only [List.map_map]; rfl, sortOk_nats ks, ?_⟩
  rw [e2]
  have nd2 : ls.Nodup := hp.nodup_iff.mpr nd
  refine h ls ?_ fun x => by rw [hp.mem_iff, hm]
  have := hs.and nd2
  exact this.imp fun ⟨h1, h2⟩ => by omega
theorem plain_mapN (xs : List Nat) (f : Nat → Nat) : (PyData.tuple (xs.map fun r => natD (f r))).plain = true ∧ (PyData.tuple (xs.map fun r => natD (f r))).depth ≤ 1 := by
  have e : (xs.map fun r => natD (f r)) = (xs.map fun r => ((f r : Nat) : Int)).map .int := by rw [List.map_map]; rfl
  rw [e]
  refine ⟨?_, ?_⟩
  · simp only [PyData.plain]; exact plainAll_map (α := Int) _
  · simp only [PyData.depth]; exact Nat.succ_le_succ (depthAll_map (α := Int) _)
end PyD
namespace PyD
open PySem PySem.Spec L2
open PyProof.Rows hiding St
section
variable {I : SI} {X : Cx} {a b c : Expr} {ma mb mc : ME} {pos : Pos}
def mChain (p p' : D → D → (D → Prop) → Prop) (a b c : ME) : ME := fun ρ Q => a ρ fun d => b ρ fun e => p d e fun z => match z with
  | .bool k => if k = true then c ρ fun f => p' e f Q else Q (.bool false)
  | _ => False
theorem de_chain {op op' : CmpOp} {p p' : D → D → (D → Prop) → Prop} (r : R2D X (compareOp op) p) (r' : R2D X (compareOp op') p') (ha : DB I X a ma) (hb : DB I X b mb) (hc : DB I X c mc)
    (h1 : lastMarks [op, op'] [b, c] = false := by with_unfolding_all rfl) : DE I X (.Compare a [op, op'] [b, c] pos) (mChain p p' ma mb mc) := by
  refine ⟨fun pins s σ H Q Iv ⟨W, ρ, Qd, ok, S, hm, f⟩ => ?_⟩
  refine Compare_chain (ha.run Iv ok S hm fun v s1 x H1 d I1 rx q e1 S1 t1 => chain_link (hb.run I1 ok S1 q fun u s2 y H2 e I2 ry q2 e2 S2 t2 => ?_)) h1
  refine thn (r I2 ok S2 rx ry (e2.top ok t1) t2 q2 (Q := fun z H3 => ∃ k, z = V.bl k ∧ Ex W H2 H3 ∧ SR I W X.K σ H3 ρ ∧ (if k = true then mc ρ fun f => p' e f Qd else Qd (.bool false))) fun w H3 d3 q3 e3 S3 t3 => ?_) fun c s3 ⟨z, H3, I3, r3, k, ez, e3, S3, q3⟩ => ?_
  · cases d3 <;> try (exact False.elim q3)
    cases t3
    exact ⟨_, rfl, e3, S3, q3⟩
  · subst ez
    cases r3
    refine wpAny_truthy_bool ?_
    cases k with
    | false =>
      rw [if_neg Bool.false_ne_true] at q3
      exact ite_ff ⟨.bl false, H3, I3, rfl, f _ _ _ q3 (e1.trans (e2.trans e3)) S3 (.bl false)⟩
    | true =>
      rw [if_pos rfl] at q3
      refine ite_tt (chain_last (hc.run I3 ok S3 q3 fun w s4 z H4 g I4 rz q4 e4 S4 t4 => ?_))
      exact r' I4 ok S4 ry rz ((e3.trans e4).top ok t2) t4 q4 (f.ex (e1.trans (e2.trans (e3.trans e4))))
theorem dt_chain {op op' : CmpOp} {p p' : D → D → (D → Prop) → Prop} (r : R2D X (compareOp op) p) (r' : R2D X (compareOp op') p') (ha : DB I X a ma) (hb : DB I X b mb) (hc : DB I X c mc)
    (h1 : lastMarks [op, op'] [b, c] = false := by with_unfolding_all rfl) : DT I X (.Compare a [op, op'] [b, c] pos) (tBool (mChain p p' ma mb mc)) := by
  refine ⟨fun pins s σ H Q Iv ⟨W, ρ, Qb, ok, S, hm, f⟩ => ?_⟩
  refine isTrue_chain (ha.run Iv ok S hm fun v s1 x H1 d I1 rx q e1 S1 t1 => test_link (hb.run I1 ok S1 q fun u s2 y H2 e I2 ry q2 e2 S2 t2 => ?_)) h1
  refine thn (r I2 ok S2 rx ry (e2.top ok t1) t2 q2 (Q := fun z H3 => ∃ k, z = V.bl k ∧ Ex W H2 H3 ∧ SR I W X.K σ H3 ρ ∧ (if k = true then mc ρ fun f => p' e f fun d => match d with | .bool b => Qb b | _ => False else Qb false)) fun w H3 d3 q3 e3 S3 t3 => ?_) fun c s3 ⟨z, H3, I3, r3, k, ez, e3, S3, q3⟩ => ?_
  · cases d3 <;> try (exact False.elim q3)
    cases t3
    exact ⟨_, rfl, e3, S3, q3⟩
  · subst ez
    cases r3
    refine wpAny_truthy_bool ?_
    cases k with
    | false =>
      rw [if_neg Bool.false_ne_true] at q3
      exact ite_ff ⟨H3, I3, f _ _ q3 (e1.trans (e2.trans e3)) S3⟩
    | true =>
      rw [if_pos rfl] at q3
      refine ite_tt (test_last (hc.run I3 ok S3 q3 fun w s4 z H4 g I4 rz q4 e4 S4 t4 => ?_))
      refine thn (r' I4 ok S4 ry rz ((e3.trans e4).top ok t2) t4 q4 (Q := fun z H3 => ∃ k, z = V.bl k ∧ Q k H3) fun w H5 d5 q5 e5 S5 t5 => ?_) fun c s3 ⟨z, H3, I3, r3, k, ez, q3⟩ => ?_
      · cases d5 <;> try (exact False.elim q5)
        cases t5
        exact ⟨_, rfl, f _ _ q5 (e1.trans (e2.trans (e3.trans (e4.trans e5)))) S5⟩
      · subst ez
        cases r3
        exact wpAny_truthy_bool ⟨H3, I3, q3⟩
end
section
variable {prog : Program} {w : World} {A : Around} {E : Value → Shared → Prop} {s : Shared}
theorem pick_rev (xs : Array Value) : ((List.range xs.size).filterMap fun (k : Nat) => xs[(((xs.size : Int) - 1) + (k : Int) * -1).toNat]?).toArray = xs.toList.reverse.toArray := by
  have h : (List.range xs.size).filterMap (fun (k : Nat) => xs[(((xs.size : Int) - 1) + (k : Int) * -1).toNat]?) = ((List.range xs.size).map fun k => xs.size - 1 - k).filterMap (xs[·]?) := by
    rw [List.filterMap_map]
    congr 1
    funext k
    show _ = xs[xs.size - 1 - k]?
    rw [show (((xs.size : Int) - 1) + (k : Int) * -1).toNat = xs.size - 1 - k by omega]
  rw [h, PySem.W.krv_range, List.filterMap_reverse, PySem.W.krv_all]
theorem getItem_tuple_rev {t sl : Addr} {items : Array Value} {vs : Value} {Q : Value → Shared → Prop} (ht : IsTup s.heap t items) (hs : s.heap.IsSliceOf sl .none .none vs) (ps : IsPart vs (some (-1)))
    (h : Q (.ref s.heap.objs.size) { s with heap := s.heap.push { cls := .type "tuple", data := .seq items.toList.reverse.toArray } })
    (hsz : items.size ≤ sizeLine) : wpAny (model prog w) A (getItem (.ref t) (.ref sl)) Q E s := by
  have htake : sizeOk (.seq items.toList.reverse.toArray) := by
    show items.toList.reverse.toArray.size ≤ sizeLine
    rw [List.size_toArray, List.length_reverse, Array.length_toList]
    exact hsz
  obtain ⟨os, hos, hcs, hds⟩ := id hs
  have hTs : s.TypeIs (.ref sl) "slice" := ⟨os, hos, hcs⟩
  unfold getItem
  try with_reducible refine wpAny_holding ?_
  first | refine wpAny_bind (wpAny_pure ?_) | skip
  refine wpAny_bind (wpAny_sequenceKey ht.typeIs (by decide) ?_)
  refine wpAny_bind (wpAny_callSpecial?_slot (name := Str.ofString "__getitem__") ht.typeIs PyProof.Rows.slot_tuple_getitem
    (wpAny_call_entry PyProof.Rows.slot_tuple_getitem ht.typeIs entry_tuple_getitem ?_ (args_tuple_getitem _ _)))
  show wpAny _ _ (Builtin.Tuple.tupleItemsOf (.ref t) >>= _) _ _ s
  refine wpAny_bind (tupleItemsOf_ ht ?_)
  refine wpAny_bind (wpAny_typeOf hTs ?_)
  rw [if_pos (by decide)]
  refine wpAny_bind ?_
  · unfold Builtin.Slice.sliceApplied Builtin.Slice.sliceFields
    refine wpAny_bind (wpAny_bind (wpAny_field hos hds (x := .none) rfl (wpAny_bind (wpAny_field hos hds (x := .none) rfl (wpAny_bind (wpAny_field hos hds (x := vs) rfl (wpAny_pure ?_)))))))
    refine wpAny_bind (HT.slicePart_ ps ?_)
    show wpAny _ _ (if ((-1 : Int) == 0) = true then _ else _) _ _ s
    rw [if_neg (by decide)]
    refine wpAny_bind (HT.slicePart_ .none (wpAny_bind (HT.slicePart_ .none (wpAny_bind (wpAny_pure ?_)))))
    show wpAny _ _ (pure ((items.size : Int) - 1, (-1 : Int), Builtin.Slice.slicePlaces ((items.size : Int) - 1) (-1) (-1))) _ _ s
    refine wpAny_pure ?_
    have hp : Builtin.Slice.slicePlaces ((items.size : Int) - 1) (-1) (-1) = items.size := by
      unfold Builtin.Slice.slicePlaces
      have h1 : ¬ ((-1 : Int) > 0) := by decide
      simp only [h1, if_false]
      rw [show (- -1 : Int) = 1 by decide, Int.ediv_one]
      split <;> omega
    rw [hp]
    have hno : ¬ ((((items.size : Int) - 1) == 0 && (-1 : Int) == 1 && items.size == items.size) = true) := by simp
    show wpAny _ _ (if (((items.size : Int) - 1) == 0 && (-1 : Int) == 1 && items.size == items.size) = true then _ else _) _ _ s
    rw [if_neg hno, pick_rev]
    first
      | exact wpAny_bind (m := Builtin.Tuple.tupleExact _) (wpAny_newObj_type (wpAny_pure ⟨_, rfl, wpAny_pure h⟩) htake)
      | exact wpAny_bind (m := Builtin.Tuple.tupleExact _) (wpAny_newObj_type (wpAny_bind (wpAny_pure (wpAny_pure ⟨_, rfl, wpAny_pure h⟩))) htake)
end
/-- what xs[::-1] is by the heap -/
def tRevA (K : PySem.W.Frag) (te : TE) : TE := fun σ H Q => te σ H fun x H1 => ∃ a xs, x = .ref a ∧ ((SqL K H1 a xs ∧ ∀ p, H1 p = none → Q (.ref p) (upd H1 p (.lst xs.reverse))) ∨ (SqT K H1 a xs ∧ ∀ p o, H1 p = none → o.dict = none → Q (.ref p) (upd H1 p (tupH xs.reverse o))))
theorem pe_revA {X : Cx} {e : Expr} {te : TE} {k : Nat} {p1 p2 p3 pos : Pos} (he : PE X e te) : PE X (.Subscript e (.Slice none none (some (.UnaryOp .USub (.Constant (.int 1) k p1) p2)) p3) pos) (tRevA X.K te) := by
  refine ⟨fun pins s σ H Q I h => ?_⟩
  refine Subscript_ (thn (he.run pins s σ H _ I h) fun v s1 ⟨x, H1, I1, r1, q1⟩ => ?_)
  obtain ⟨a, xs, ex, q⟩ := q1
  subst ex
  cases r1
  have hst : PO X (some (.UnaryOp .USub (.Constant (.int 1) k p1) p2)) (tPart (tUn (rU fun i => .int (-i)) (tC (.int 1)))) := po_some (pe_un un_neg pe_int)
  refine wpAny_Slice (thn (po_none.run pins s1 σ H1 (fun o H2 => o = none ∧ H2 = H1) I1 ⟨rfl, rfl⟩) fun vl s2 ⟨l, H2, I2, pl, el, e2⟩ => ?_)
  subst el e2
  refine thn (po_none.run pins s2 σ H2 (fun o H3 => o = none ∧ H3 = H2) I2 ⟨rfl, rfl⟩) fun vu s3 ⟨u, H3, I3, pu, eu, e3⟩ => ?_
  subst eu e3
  refine thn (hst.run pins s3 σ H3 (fun o H4 => o = some (-1) ∧ H4 = H3) I3 ⟨1, rfl, -1, rfl, rfl, rfl⟩) fun vs s4 ⟨o, H4, I4, ps, eo, e4⟩ => ?_
  subst eo e4
  have I5 : Inv X pins σ H4 { s4 with heap := s4.heap.push { cls := .type "slice", data := .fields #[vl, vu, vs] } } := I4.kept (t' := s4.toks) fun b ob q => Heap.get?_push_of_some _ q
  show wpAny (model X.prog X.w) X.A (subscriptTail e (.Slice none none (some (.UnaryOp .USub (.Constant (.int 1) k p1) p2)) p3) (.ref a) (.ref s4.heap.objs.size)) (EP X pins σ Q) X.xe { s4 with heap := s4.heap.push { cls := .type "slice", data := .fields #[vl, vu, vs] } }
  rcases q with ⟨hx, q⟩ | ⟨hx, q⟩
  · obtain ⟨its, r, ht, hz⟩ := I5.list hx
    have hlen := r.length
    refine tail_any (ops := [.ref a, .ref s4.heap.objs.size]) ht.isList.typeIs (PySem.slot_list_getitem.lookup) ?_ (by with_unfolding_all rfl)
    refine wpAny_getItem_list_slice ht.isList (Heap.IsSliceOf.new _ vl vu vs) pl pu ps (by decide) ?_ (by rw [List.size_toArray]; omega)
    rw [PySem.W.krv_pick]
    refine ⟨.ref _, _, I5.laid (t' := s4.toks) (o := .lst xs.reverse) (fun b ob q => Heap.get?_push_of_some _ q) (Nat.le_refl _) ?_, rfl, q _ (I5.hok.fresh (Nat.le_refl _))⟩
    exact ⟨by rw [List.length_reverse]; exact hz, _, 0, r.reverse, Heap.get?_push_size _ rfl⟩
  · obtain ⟨its, r, ht, hz⟩ := I5.tuple hx
    have hlen := r.length
    cases pl
    cases pu
    refine tail_any (ops := [.ref a, .ref s4.heap.objs.size]) ht.typeIs (PyProof.Rows.slot_tuple_getitem.lookup) ?_ (by with_unfolding_all rfl)
    refine getItem_tuple_rev ht (Heap.IsSliceOf.new _ _ _ vs) ps ?_ (by rw [List.size_toArray]; omega)
    exact fin_tup I5 (by rw [List.length_reverse]; exact hz) r.reverse (by simp) q
def revDt (d : D) (Q : D → Prop) : Prop := match d with
  | .list ds => Q (.list ds.reverse)
  | .tuple ds => Q (.tuple ds.reverse)
  | _ => False
def pRev (m : ME) : ME := fun ρ Q => m ρ fun d => revDt d Q
def pRevL (m : ME) : ME := fun ρ Q => m ρ fun d => match d with
  | .list ds => Q (.list ds.reverse)
  | _ => False
section
variable {I : SI} {X : Cx} {e : Expr} {m : ME} {k : Nat} {p1 p2 p3 pos : Pos}
theorem de_rev (he : DE I X e m) : DE I X (.Subscript e (.Slice none none (some (.UnaryOp .USub (.Constant (.int 1) k p1) p2)) p3) pos) (pRev m) :=
  pe_imp (pe_revA he) fun σ H Q ⟨W, ρ, Qd, ok, S, hm, f⟩ => ⟨W, ρ, _, ok, S, hm, fun v H1 d q e1 S1 t => by
    cases d <;> try exact False.elim q
    · obtain ⟨c, xs, rfl, r, z, ra⟩ := (Top.rep (bx := W.bx) t).list
      exact ⟨c, xs, rfl, .inl ⟨S1.sqL r, fun p hp => (f.ex e1).newL ok S1 hp (by rw [List.length_reverse]; exact z) ra.rev q⟩⟩
    · obtain ⟨c, xs, rfl, r, z, ra⟩ := (Top.rep (bx := W.bx) t).tuple
      exact ⟨c, xs, rfl, .inr ⟨S1.sqT r, fun p o hp ho => (f.ex e1).newT ok S1 ho hp (by rw [List.length_reverse]; exact z) ra.rev q⟩⟩⟩
theorem df_revL (he : DB I X e m) : DF I X (.Subscript e (.Slice none none (some (.UnaryOp .USub (.Constant (.int 1) k p1) p2)) p3) pos) (pRevL m) :=
  pe_imp (pe_revA he) fun σ H Q ⟨W, ρ, Qd, ok, S, hm, f⟩ => ⟨W, ρ, _, ok, S, hm, fun v H1 d q e1 S1 t => by
    cases d <;> try exact False.elim q
    obtain ⟨c, xs, rfl, r, z, ra⟩ := t.list
    exact ⟨c, xs, rfl, .inl ⟨S1.sqL r, fun p hp => (f.ex ok e1).newL ok S1 hp (by rw [List.length_reverse]; exact z) ra.rev q⟩⟩⟩
end
end PyD
namespace PyD
open PySem PySem.Spec L2
open PyProof.Rows hiding St
/-- a list (true) or a tuple -/
def SqB (K : PySem.W.Frag) : Bool → Hp → Addr → List V → Prop
  | true, H, a, xs => SqL K H a xs
  | false, H, a, xs => SqT K H a xs
def IsIt : Bool → Heap → Addr → Addr → Nat → Prop
  | true, h, it, l, i => h.IsListIter it l i
  | false, h, it, l, i => h.IsTupleIter it l i
def IsSq : Bool → Heap → Addr → Array Value → Prop
  | true, h, l, its => h.IsList l its
  | false, h, l, its => h.IsTuple l its
def itName : Bool → String
  | true => "list_iterator"
  | false => "tuple_iterator"
theorem IsIt.at {b : Bool} {h h' : Heap} {it l : Addr} {i : Nat} (x : IsIt b h it l i) (k : ∀ o, h.get? it = some o → h'.get? it = some o) : IsIt b h' it l i := by
  cases b with
  | true => exact Heap.IsListIter.at x k
  | false => exact Heap.IsTupleIter.at x k
theorem IsIt.obj {b : Bool} {h : Heap} {it l : Addr} {i : Nat} (x : IsIt b h it l i) : ∃ o, h.get? it = some o ∧ ∃ vs, o.data = .fields vs := by
  cases b with
  | true => obtain ⟨o, e, c, d⟩ := x; exact ⟨o, e, _, d⟩
  | false => obtain ⟨o, e, c, d⟩ := x; exact ⟨o, e, _, d⟩
theorem Draws.sq {prog : Program} {w : World} {A : Around} (b : Bool) (hh : A.handled = none) (it l : Addr) (hne : l ≠ it) (items : Array Value) :
    Draws prog w A it [it, l] items.size (fun i v => items[i]? = some v) (fun i h => IsIt b h it l i ∧ IsSq b h l items) := by
  cases b with
  | true => exact Draws.list hh it l hne items
  | false => exact Draws.tuple hh it l hne items
/-- at its end -/
theorem Draws.fin {prog : Program} {w : World} {A : Around} (b : Bool) (hh : A.handled = none) (it l : Addr) (items : Array Value) (i : Nat) (hx : items[i]? = none) :
    Draws prog w A it [it, l] i (fun i v => items[i]? = some v) (fun j h => j = i ∧ IsIt b h it l i ∧ IsSq b h l items) where
  live := fun _ _ st => let ⟨o, ho, _⟩ := st.2.1.obj; ⟨o, ho⟩
  frame := fun _ _ _ st hk => ⟨st.1, st.2.1.at fun o e => hk it (by simp) o e, by
    have := st.2.2
    cases b with
    | true => exact Heap.IsList.at this fun o e => hk l (by simp) o e
    | false => exact Heap.IsTuple.at this fun o e => hk l (by simp) o e⟩
  item := fun j s Q E hi st hQ => by have := st.1; omega
  done := fun s Q E st hE => by
    obtain ⟨_, h1, h2⟩ := st
    cases b with
    | true => exact wpAny_nextOf_list_end hh h1 h2 hx hE
    | false => exact wpAny_nextOf_tuple_end hh h1 h2 hx hE
theorem begins_sq (b : Bool) (l : Addr) (items : Array Value) : Begins (.ref l) { cls := .type (itName b), data := .fields #[.ref l, .int 0 0] } fun h => IsSq b h l items := by
  cases b with
  | true => exact begins_list l items
  | false => exact begins_tuple l items
theorem SqB.get {X : Cx} {pins : List (Addr × Obj)} {σ : St} {H : Hp} {s : Shared} {b : Bool} {a : Addr} {xs : List V} (I : Inv X pins σ H s) (h : SqB X.K b H a xs) : ∃ its : List Value, Vals xs its ∧ IsSq b s.heap a its.toArray ∧ xs.length ≤ sizeLine := by
  cases b with
  | true => obtain ⟨its, r, p, z⟩ := I.list h; exact ⟨its, r, p.isList, z⟩
  | false => obtain ⟨its, r, p, z⟩ := I.tuple h; exact ⟨its, r, p, z⟩
theorem SqB.inj {X : Cx} {pins : List (Addr × Obj)} {σ : St} {H : Hp} {s : Shared} {b : Bool} {a : Addr} {xs ys : List V} (I : Inv X pins σ H s) (h : SqB X.K b H a xs) (h' : SqB X.K b H a ys) : xs = ys := by
  cases b with
  | true => exact I.list_inj h h'
  | false => exact I.tuple_inj h h'
theorem IsSq.lt {b : Bool} {h : Heap} {l : Addr} {its : Array Value} (x : IsSq b h l its) : l < h.objs.size := by
  cases b with
  | true => obtain ⟨o, e, _⟩ := x; exact Heap.lt_size e
  | false => obtain ⟨o, e, _⟩ := x; exact Heap.lt_size e
theorem IsSq.cls {b : Bool} {h : Heap} {l : Addr} {its : Array Value} (x : IsSq b h l its) : ∃ o, h.get? l = some o ∧ ∃ ws n, o.data = .seq ws n := by
  cases b with
  | true => obtain ⟨o, e, _, n, d⟩ := x; exact ⟨o, e, _, n, d⟩
  | false => obtain ⟨o, e, _, n, d⟩ := x; exact ⟨o, e, _, n, d⟩
theorem IsSq.ne {b b' : Bool} {h : Heap} {l it l' : Addr} {i : Nat} {its : Array Value} (x : IsSq b h l its) (y : IsIt b' h it l' i) : l ≠ it := fun e => by
  subst e
  obtain ⟨o, e1, ws, n, d⟩ := x.cls
  obtain ⟨o2, e2, vs, d2⟩ := y.obj
  rw [e1] at e2; cases e2
  rw [d] at d2; cases d2
def IteB (K : PySem.W.Frag) (b : Bool) (a : Addr) : It :=
  ⟨fun i H => ∃ (xs : List V) (x : V), SqB K b H a xs ∧ xs[i]? = some x, fun i H v H' => ∃ T x, v = .ref T ∧ H T = none ∧ H' = upd H T (.tup [.int (i : Nat), x]) ∧ ∀ xs, SqB K b H a xs → xs[i]? = some x, fun i H => ∃ xs : List V, SqB K b H a xs ∧ xs.length ≤ i⟩
theorem turn_enumB {P : Program} {w : World} {K : PySem.W.Frag} {elts : List Expr} {kk : Nat} {tpos : Pos} (b : Bool) (a e it : Addr) :
    Turn P w K (.Tuple elts kk tpos) (IteB K b a) [e, it] e (fun i h => (∃ old, IsEnum h e it ((i : Nat) : Int) old) ∧ IsIt b h it a i ∧ e ≠ it ∧ e ≠ a) where
  mem := by simp
  obj := fun i h st c hc => by
    obtain ⟨⟨old, he⟩, hi, _⟩ := st
    obtain ⟨o, ho, vs, hd⟩ := hi.obj
    have e' : c = e ∨ c = it := by simpa using hc
    rcases e' with z | z
    · rw [z]; exact ⟨_, he, fun v q => nomatch q⟩
    · rw [z]; exact ⟨o, ho, fun v q => by rw [hd] at q; cases q⟩
  keep := fun i h h' st k => let ⟨⟨old, he⟩, hi, hne⟩ := st; ⟨⟨old, k e (by simp) _ he⟩, hi.at fun o q => k it (by simp) o q, hne⟩
  item := by
    intro X hP hw hK hc i pins s σ H E I hf st hg
    subst hP hw hK
    obtain ⟨⟨old, he⟩, hit, hne, hea⟩ := st
    obtain ⟨xs, x, hq, hx⟩ := hg
    obtain ⟨its, rv, p, hz⟩ := SqB.get I hq
    obtain ⟨u, hu, ru⟩ := rv.get hx
    have hel : e < s.heap.objs.size := Heap.lt_size he
    have hil : it < s.heap.objs.size := by obtain ⟨_, q, _⟩ := hit.obj; exact Heap.lt_size q
    have hln := rv.length
    have hlt : i < its.toArray.size := by
      have := (List.getElem?_eq_some_iff.mp hu).1
      rw [List.size_toArray]; exact this
    refine wpAny_pyNext_enum_itemD (Draws.sq b (show X.A.in1.handled = none from I.ok.hd hc) it a (p.ne hit) its.toArray) he ⟨hit, p⟩ hlt hne (by simp [hne, hea]) fun x' h' tk hP ho hit' hT hsz hk => ?_
    have hxu : x' = u := by
      have hP' : its.toArray[i]? = some x' := hP
      rw [List.getElem?_toArray, hu] at hP'
      exact (Option.some.inj hP').symm
    subst hxu
    refine ⟨_, rfl, wpAny_letOwnedTupleGo_enum (s := { s with heap := h', toks := tk + 1 }) ho fun h'' he' sb => ?_⟩
    have hT2 : h''.get? s.heap.objs.size = some { cls := .type "tuple", data := .seq #[.int i tk, x'] } := (sb.2 _ (Nat.ne_of_gt hel)).trans hT
    have new : ObjOk X.prog X.w (upd H s.heap.objs.size (.tup [.int (i : Nat), x])) h'' s.heap.objs.size (.tup [.int (i : Nat), x]) :=
      ⟨by show 2 ≤ sizeLine; decide, [.int i tk, x'], .cons ⟨_, rfl⟩ (.cons ru .nil), ⟨_, hT2, rfl, _, rfl⟩⟩
    have I1 : Inv X pins σ (upd H s.heap.objs.size (.tup [.int (i : Nat), x])) { s with heap := h'', toks := tk + 1 } :=
      I.turnedNew (ch := [e, it]) (fun c ob hb q => (sb.2 c (fun z => hb (by simp [z]))).trans (hk c ob (fun z => hb (by simp [z])) (fun z => hb (by simp [z])) q)) hf (Nat.le_refl _) new
    refine ⟨.ref s.heap.objs.size, _, I1, rfl, ⟨_, x, rfl, I.hok.fresh (Nat.le_refl _), rfl, fun ys hy => by rw [SqB.inj I hy hq]; exact hx⟩, ⟨⟨x', ?_⟩, hit'.1.at fun o q => (sb.2 it (Ne.symm hne)).trans q, hne, hea⟩, fun c hb => ?_⟩
    · have e1 : ((i + 1 : Nat) : Int) = (i : Int) + 1 := by omega
      rw [e1]; exact he'
    · have hb' : c < s.heap.objs.size := by
        have e' : c = e ∨ c = it := by simpa using hb
        rcases e' with z | z
        · rw [z]; exact hel
        · rw [z]; exact hil
      rw [upd_ne (Nat.ne_of_lt hb')]
      exact (hf c hb).1
  done := by
    intro X hP hw hK hc i pins s σ H E I hf st hg
    subst hP hw hK
    obtain ⟨⟨old, he⟩, hit, hne, hea⟩ := st
    obtain ⟨xs, hq, hx⟩ := hg
    obtain ⟨its, rv, p, hz⟩ := SqB.get I hq
    obtain ⟨f0, f1, f2, f3, f4, f5⟩ := hf it (by simp)
    have hl := rv.length
    exact wpAny_pyNext_enum_endD (Draws.fin b (show X.A.in1.handled = none from I.ok.hd hc) it a its.toArray i (by simp; omega)) he ⟨rfl, hit, p⟩ fun h' eb => ⟨rfl, I.turned (t' := s.toks) (fun c o hb q => eb c o hb q) f0 f1 f3 f4 f5⟩
  self := fun A i s Q E st h => let ⟨⟨_, he⟩, _⟩ := st; wpAny_pyIter_enum he h
set_option maxHeartbeats 1000000 in
theorem meets_enumerate_new1 {v : Value} {o : Obj} {H : Heap → Prop} (B : Begins v o H) :
    Meets (Builtin.«enumerate.__new__» ⟨[.type "enumerate", v], []⟩) (fun _ R s => H s.heap ∧
      R (.ok (.ret (.ref (s.heap.push o).objs.size))) { s with heap := (s.heap.push o).push { cls := .type "enumerate", data := .fields #[.none, .bool false, .ref s.heap.objs.size, rawInt 0, .none, .none] } }) :=
  .of_wp fun prog w A R s h => by
    obtain ⟨hp, g, d, tk, os⟩ := s; obtain ⟨h1, h⟩ := h
    have hsub := sub_enumerate
    have q1 : ∀ {A' : Around} {E : Value → Shared → Prop} {Q : Value → Shared → Prop}, Q (.ref hp.objs.size) ⟨hp.push o, g, d, tk, os⟩ → wpAny (model prog w) A' (pyIter v) Q E ⟨hp, g, d, tk, os⟩ :=
      fun q => B.iter prog w _ _ ⟨hp, g, d, tk, os⟩ _ h1 q
    wp_walk using q1
    refine wpAny_stack_any fun st => wpAny_pure ?_
    split
    · rename_i c _ _ _ _ _
      cases (c == Value.type "enumerate")
      · wp_walk using q1
        exact ⟨_, rfl, h⟩
      · wp_walk using q1
        exact ⟨_, rfl, h⟩
    · wp_walk using q1
      exact ⟨_, rfl, h⟩
theorem enum_begins1 {prog : Program} {w : World} {A : Around} {E : Value → Shared → Prop} {s : Shared} {v : Value} {o : Obj} {H : Heap → Prop} {Q : Value → Shared → Prop} (B : Begins v o H) (h1 : H s.heap)
    (h : ∀ h', IsEnum h' (s.heap.objs.size + 1) s.heap.objs.size 0 .none → h'.get? s.heap.objs.size = some o → h'.objs.size = s.heap.objs.size + 2 →
      (∀ b o, s.heap.get? b = some o → h'.get? b = some o) → Q (.ref (s.heap.objs.size + 1)) { s with heap := h' }) :
    wpAny (model prog w) A (call (.type "enumerate") [v]) Q E s := by
  refine callType_new F.called_enumerate (by decide) (F.typeCall_enumerate_1 _) (F.newCall_enumerate_1 _) (fun obj => F.args_object_init_2 obj _) F.entry_enumerate_new
    (meets_enumerate_new1 B) ⟨h1, ?_⟩
  have hz : (s.heap.push o).objs.size = s.heap.objs.size + 1 := Heap.size_push ..
  show _ ∧ _
  rw [hz]
  have he : IsEnum ((s.heap.push o).push { cls := .type "enumerate", data := .fields #[.none, .bool false, .ref s.heap.objs.size, rawInt 0, .none, .none] }) (s.heap.objs.size + 1) s.heap.objs.size 0 .none := by
    have := Heap.get?_push_size (s.heap.push o) (o := { cls := .type "enumerate", data := .fields #[.none, .bool false, .ref s.heap.objs.size, rawInt 0, .none, .none] }) rfl
    rw [hz] at this; exact this
  refine ⟨⟨_, he, rfl⟩, h _ he (Heap.get?_push_of_some _ (Heap.get?_push_size _ B.free)) (by rw [Heap.size_push, hz]) fun b o x => Heap.get?_push_of_some _ (Heap.get?_push_of_some _ x)⟩
theorem isIt_new {b : Bool} {h : Heap} {it l : Addr} (e : h.get? it = some { cls := .type (itName b), data := .fields #[.ref l, .int 0 0] }) : IsIt b h it l 0 := by
  cases b with
  | true => exact ⟨_, e, rfl, rfl⟩
  | false => exact ⟨_, e, rfl, rfl⟩
def iEnumB (K : PySem.W.Frag) (ta : TA) : TI := fun σ H R => ta σ H fun vs H1 => ∃ a b xs, vs = [.ref a] ∧ SqB K b H1 a xs ∧ R (IteB K b a) H1
theorem pi_enumB {X : Cx} {e : Expr} {ta : TA} {p pos tpos : Pos} {elts : List Expr} {kk : Nat} (hg : Gl X "enumerate") (hm : X.mg "enumerate" = none) (ha : PA X [e] ta) (hs : starEach [e] X.env = [(false, eval e X.env)] := by rfl) :
    PI X (.Tuple elts kk tpos) (.Call (.Name "enumerate" p) [e] [] pos) (iEnumB X.K ta) := by
  refine ⟨fun pins s σ H R I h => ?_⟩
  refine Call_ (ld_blt I hg hm boot_enumerate (PyProof.Rows.callWith_type1 (thn (ha.run pos pins s σ H _ I h) fun us s1 ⟨vs, H1, I1, r1, q1⟩ => ?_) hs rfl))
  obtain ⟨a, b, xs, ex, hq, q⟩ := q1
  subst ex
  cases r1 with
  | cons r rr =>
    cases rr
    cases r
    obtain ⟨its, rv, p', hz⟩ := SqB.get I1 hq
    refine enum_begins1 (begins_sq b a its.toArray) p' fun h' he hit hsz hk => wpAny_pyIter_enum he ?_
    have I2 : Inv X pins σ H1 { s1 with heap := h' } := I1.kept (t' := s1.toks) hk
    have hal := p'.lt
    refine ⟨s1.heap.objs.size + 1, [s1.heap.objs.size + 1, s1.heap.objs.size], _, _, H1, rfl, I2, turn_enumB b a (s1.heap.objs.size + 1) s1.heap.objs.size, ⟨⟨.none, he⟩, isIt_new hit, Nat.succ_ne_self _, fun e => Nat.lt_irrefl _ (Nat.lt_trans (Nat.lt_succ_self _) (show s1.heap.objs.size + 1 < s1.heap.objs.size by rw [e]; exact hal))⟩, fun c hb => ?_, q⟩
    have e' : c = s1.heap.objs.size + 1 ∨ c = s1.heap.objs.size := by simpa using hb
    have hle : s1.heap.objs.size ≤ c := by
      rcases e' with z | z
      · rw [z]; exact Nat.le_add_right _ _
      · rw [z]; exact Nat.le_refl _
    exact I1.fpOk hle (I1.hok.fresh hle)
def enumD (ds : List D) : List D := ds.mapIdx fun i d => .tuple [.int (i : Nat), d]
def aEnum (m : ME) : MA := fun ρ Q => m ρ fun d => match itemsS d with
  | some ds => ds.length ≤ sizeLine → Q (enumD ds)
  | none => False
/-- one that may be walked, list or tuple -/
theorem SeqW.sqB {I : SI} {W : DW} {K : PySem.W.Frag} {σ : St} {ρ : En} {H : Hp} {b : Bool} {a : Addr} {xs : List V} {objs : List (Addr × HO)} (w : SeqW I W K σ ρ H b a xs objs) {H' : Hp} (l : Lkd W.L H') (h : ∀ p ∈ objs, unl W.L H' p.1 = some p.2) : SqB K b H' a xs := by
  cases b with
  | true => exact w.sqL l h
  | false => exact w.sqT l h
theorem sqd_some {I : SI} {W : DW} {K : PySem.W.Frag} {σ : St} {ρ : En} {H : Hp} {v : V} {d : D} {ds : List D} (h : SqD I W K σ ρ H v d) (e : itemsS d = some ds) :
    ∃ b a xs objs, v = .ref a ∧ SeqW I W K σ ρ H b a xs objs ∧ xs.length ≤ sizeLine ∧ RepA K (avA W I.own σ ρ) (unl W.L H) xs ds := by
  cases d <;> cases e
  · obtain ⟨a, xs, objs, r⟩ := h; exact ⟨true, a, xs, objs, r⟩
  · obtain ⟨a, xs, objs, r⟩ := h; exact ⟨false, a, xs, objs, r⟩
theorem Wk.enum {I : SI} {W : DW} {K : PySem.W.Frag} {σ : St} {ρ : En} {H : Hp} {b : Bool} {a : Addr} {xs : List V} {ds : List D} {objs : List (Addr × HO)} (w : SeqW I W K σ ρ H b a xs objs) (r : RepA K (avA W I.own σ ρ) (unl W.L H) xs ds) : Wk I W K σ ρ H (IteB K b a) (enumD ds) :=
  ⟨objs, w.keeps, fun H' av' l hk c _ i => ⟨fun d hd => by
    unfold enumD at hd
    rw [List.getElem?_mapIdx, Option.map_eq_some_iff] at hd
    obtain ⟨d0, hd0, rfl⟩ := hd
    obtain ⟨v, hv, rv⟩ := r.get hd0
    refine ⟨⟨xs, v, w.sqB l hk, hv⟩, fun x H'' y => ?_⟩
    obtain ⟨T, x', e1, e2, e3, e4⟩ := (show ∃ T x', x = .ref T ∧ H' T = none ∧ H'' = upd H' T (.tup [.int (i : Nat), x']) ∧ ∀ xs, SqB K b H' a xs → xs[i]? = some x' from y)
    have := e4 xs (w.sqB l hk)
    rw [hv] at this; cases this
    exact .inr ⟨T, [.int (i : Nat), v], _, { cls := .none, data := .fields #[] }, e1, e2, rfl, e3, (by rw [sizeLine_eq]; exact (by omega : (2 : Nat) ≤ 16777216)), rfl, .cons (.int _) (.cons (rv.mono c) .nil)⟩, fun h => ⟨xs, w.sqB l hk, by unfold enumD at h; rw [List.length_mapIdx] at h; rw [r.len]; exact h⟩⟩⟩
theorem di_enum {I : SI} {X : Cx} {e : Expr} {m : ME} {p pos tpos : Pos} {elts : List Expr} {kk : Nat} {pr : PR} (hg : Gl X "enumerate") (hm : X.mg "enumerate" = none) (h : DQ I X e m) (hs : starEach [e] X.env = [(false, eval e X.env)] := by rfl) :
    DI pr I X (.Tuple elts kk tpos) (.Call (.Name "enumerate" p) [e] [] pos) (aEnum m) :=
  pi_imp (pi_enumB hg hm (pa_cons h pa_nil hs) hs) fun σ H R ⟨W, ρ, Qd, ok, S, _, hm, f⟩ => ⟨W, ρ, _, ok, S, hm, fun v H1 d q e1 S1 sq => by
    split at q
    · rename_i ds hds
      obtain ⟨b, a, xs, objs, rfl, w, z, r⟩ := sqd_some sq hds
      exact ⟨a, b, xs, rfl, w.sqB S1.lkd fun p hp => (w.keeps p hp).1, f _ _ _ (q (by rw [← r.len]; exact z)) e1 S1 (Wk.enum w r)⟩
    · exact q.elim⟩
def ItzB (K : PySem.W.Frag) (b1 b2 : Bool) (a b : Addr) : It :=
  ⟨fun i H => ∃ (xs ys : List V) (x y : V), SqB K b1 H a xs ∧ SqB K b2 H b ys ∧ xs[i]? = some x ∧ ys[i]? = some y,
    fun i H v H' => ∃ T x y o, v = .ref T ∧ H T = none ∧ o.dict = none ∧ H' = upd H T (tupH [x, y] o) ∧ (∀ xs, SqB K b1 H a xs → xs[i]? = some x) ∧ ∀ ys, SqB K b2 H b ys → ys[i]? = some y,
    fun i H => ∃ xs ys : List V, SqB K b1 H a xs ∧ SqB K b2 H b ys ∧ (xs.length ≤ i ∨ ys.length ≤ i)⟩
/-- the draws of one at turn i: it goes on, or it has ended -/
theorem draws_at {prog : Program} {w : World} {A : Around} (b : Bool) (hh : A.handled = none) {it l : Addr} {items : Array Value} {h : Heap} {i : Nat} (hit : IsIt b h it l i) (hs : IsSq b h l items) :
    ∃ n St, Draws prog w A it [it, l] n (fun i v => items[i]? = some v) St ∧ St i h ∧ i ≤ n ∧ (i < n ↔ i < items.size) := by
  by_cases hlt : i < items.size
  · exact ⟨_, _, Draws.sq b hh it l (hs.ne hit) items, ⟨hit, hs⟩, by omega, by simp [hlt]⟩
  · exact ⟨_, _, Draws.fin b hh it l items i (by simp; omega), ⟨rfl, hit, hs⟩, by omega, by omega⟩
theorem turn_zipB {P : Program} {w : World} {K : PySem.W.Frag} {elts : List Expr} {kk : Nat} {tpos : Pos} (b1 b2 : Bool) {a b z TI TO i1 i2 : Addr} (D : ZipSep2 z TI TO i1 i2 [i1, a] [i2, b]) :
    Turn P w K (.Tuple elts kk tpos) (ItzB K b1 b2 a b) [z, TI, TO, i1, i2] z (fun i h => IsZip h z TI TO .none ∧ IsTupOf2 h TI (.ref i1) (.ref i2) ∧ (∃ x y, IsTupOf2 h TO x y) ∧ IsIt b1 h i1 a i ∧ IsIt b2 h i2 b i) where
  mem := by simp
  obj := fun i h st c hc => by
    obtain ⟨hz, hTI, ⟨x, y, hTO⟩, h1, h2⟩ := st
    obtain ⟨o1, e1, _, d1⟩ := h1.obj
    obtain ⟨o2, e2, _, d2⟩ := h2.obj
    have e' : c = z ∨ c = TI ∨ c = TO ∨ c = i1 ∨ c = i2 := by simpa using hc
    rcases e' with q | q | q | q | q
    · rw [q]; exact ⟨_, hz, fun v q => nomatch q⟩
    · rw [q]; exact ⟨_, hTI, fun v q => nomatch q⟩
    · rw [q]; exact ⟨_, hTO, fun v q => nomatch q⟩
    · rw [q]; exact ⟨o1, e1, fun v q => by rw [d1] at q; cases q⟩
    · rw [q]; exact ⟨o2, e2, fun v q => by rw [d2] at q; cases q⟩
  keep := fun i h h' st k => by
    obtain ⟨hz, hTI, ⟨x, y, hTO⟩, h1, h2⟩ := st
    exact ⟨k z (by simp) _ hz, k TI (by simp) _ hTI, ⟨x, y, k TO (by simp) _ hTO⟩, h1.at fun o q => k i1 (by simp) o q, h2.at fun o q => k i2 (by simp) o q⟩
  item := by
    intro X hP hw hK hc i pins s σ H E I hf st hg
    subst hP hw hK
    obtain ⟨hz, hTI, ⟨x0, y0, hTO⟩, h1, h2⟩ := st
    obtain ⟨xs, ys, x, y, hqx, hqy, hx, hy⟩ := hg
    obtain ⟨its, rv, p, _⟩ := SqB.get I hqx
    obtain ⟨its2, rv2, p2, _⟩ := SqB.get I hqy
    obtain ⟨u, hu, ru⟩ := rv.get hx
    obtain ⟨u2, hu2, ru2⟩ := rv2.get hy
    have hzl : z < s.heap.objs.size := Heap.lt_size hz
    have l1 : i < its.toArray.size := by rw [List.size_toArray]; exact (List.getElem?_eq_some_iff.mp hu).1
    have l2 : i < its2.toArray.size := by rw [List.size_toArray]; exact (List.getElem?_eq_some_iff.mp hu2).1
    refine wpAny_pyNext_zipD2_item D (Draws.sq b1 (show X.A.in1.handled = none from I.ok.hd hc) i1 a (p.ne h1) its.toArray) (Draws.sq b2 (show X.A.in1.handled = none from I.ok.hd hc) i2 b (p2.ne h2) its2.toArray) hz hTI hTO ⟨h1, p⟩ ⟨h2, p2⟩ l1 l2 fun w1 w2 h' tk P1 P2 z' TO' h1' h2' hT hsz hk => ?_
    have e1 : w1 = u := by
      have P1' : its.toArray[i]? = some w1 := P1
      rw [List.getElem?_toArray, hu] at P1'
      exact (Option.some.inj P1').symm
    have e2 : w2 = u2 := by
      have P2' : its2.toArray[i]? = some w2 := P2
      rw [List.getElem?_toArray, hu2] at P2'
      exact (Option.some.inj P2').symm
    subst e1 e2
    refine ⟨_, rfl, wpAny_letOwnedTupleGo_zip (s := { s with heap := h', toks := tk }) z' fun h'' z'' sb => ?_⟩
    have hT2 : h''.get? s.heap.objs.size = some { cls := .type "tuple", data := .seq #[w1, w2] } := (sb.2 _ (Nat.ne_of_gt hzl)).trans hT
    have new : ObjOk X.prog X.w (upd H s.heap.objs.size (tupH [x, y] { cls := .type "tuple", data := .seq #[w1, w2] })) h'' s.heap.objs.size (tupH [x, y] { cls := .type "tuple", data := .seq #[w1, w2] }) :=
      obj_tupH (its := [w1, w2]) (by show 2 ≤ sizeLine; decide) (.cons ru (.cons ru2 .nil)) hT2 ⟨_, hT2, rfl, _, rfl⟩
    have I1 : Inv X pins σ (upd H s.heap.objs.size (tupH [x, y] { cls := .type "tuple", data := .seq #[w1, w2] })) { s with heap := h'', toks := tk } :=
      I.turnedNew (ch := [z, TI, TO, i1, i2]) (fun c o hb q => (sb.2 c (fun q' => hb (by simp [q']))).trans (hk c o (fun q' => hb (by simp [q'])) (fun q' => hb (by simp [q'])) (fun q' => hb (by simp [q'])) (fun q' => hb (by simp [q'])) q)) hf (Nat.le_refl _) new
    refine ⟨.ref s.heap.objs.size, _, I1, rfl, ⟨_, x, y, _, rfl, I.hok.fresh (Nat.le_refl _), rfl, rfl, fun l hl => by rw [SqB.inj I hl hqx]; exact hx, fun l hl => by rw [SqB.inj I hl hqy]; exact hy⟩, ⟨z'', ?_, ⟨w1, w2, ?_⟩, ?_, ?_⟩, fun c hcm => ?_⟩
    · exact (sb.2 _ D.TIz).trans (hk _ _ D.TIz D.TITO D.TIi1 D.TIi2 hTI)
    · exact (sb.2 _ D.TOz).trans TO'
    · exact h1'.1.at fun o q => (sb.2 _ D.zi1.symm).trans q
    · exact h2'.1.at fun o q => (sb.2 _ D.zi2.symm).trans q
    · have hlt : c < s.heap.objs.size := by
        have e' : c = z ∨ c = TI ∨ c = TO ∨ c = i1 ∨ c = i2 := by simpa using hcm
        rcases e' with q | q | q | q | q
        · rw [q]; exact hzl
        · rw [q]; exact Heap.lt_size hTI
        · rw [q]; exact Heap.lt_size hTO
        · rw [q]; obtain ⟨_, e1, _⟩ := h1.obj; exact Heap.lt_size e1
        · rw [q]; obtain ⟨_, e1, _⟩ := h2.obj; exact Heap.lt_size e1
      rw [upd_ne (Nat.ne_of_lt hlt)]
      exact (hf c hcm).1
  done := by
    intro X hP hw hK hc i pins s σ H E I hf st hg
    subst hP hw hK
    obtain ⟨hz, hTI, ⟨x0, y0, hTO⟩, h1, h2⟩ := st
    obtain ⟨xs, ys, hqx, hqy, hend⟩ := hg
    obtain ⟨its, rv, p, _⟩ := SqB.get I hqx
    obtain ⟨its2, rv2, p2, _⟩ := SqB.get I hqy
    have l1 := rv.length
    have l2 := rv2.length
    obtain ⟨n1, St1, D1, st1, hle1, hn1⟩ := draws_at (prog := X.prog) (w := X.w) b1 (show X.A.in1.handled = none from I.ok.hd hc) h1 p
    obtain ⟨n2, St2, D2, st2, hle2, hn2⟩ := draws_at (prog := X.prog) (w := X.w) b2 (show X.A.in1.handled = none from I.ok.hd hc) h2 p2
    rw [List.size_toArray] at hn1 hn2
    exact wpAny_pyNext_zipD2_end D D1 D2 hz hTI hTO st1 st2 hle1 hle2 (by omega) fun h' tk hk => ⟨rfl, I.turnedL (t' := tk) (ch := [z, TI, TO, i1, i2]) (fun c o hb q =>
      hk c o (fun q' => hb (by simp [q'])) (fun q' => hb (by simp [q'])) (fun q' => hb (by simp [q'])) (fun q' => hb (by simp [q'])) q) hf⟩
  self := fun A i s Q E st h => wpAny_pyIter_zip st.1 h
theorem zsep {n a b : Nat} (ha : a < n) (hb : b < n) : ZipSep2 (n + 4) (n + 2) (n + 3) n (n + 1) [n, a] [n + 1, b] := by
  have h1 : (n + 2 : Nat) ≠ n + 4 := by omega
  have h2 : (n + 3 : Nat) ≠ n + 4 := by omega
  have h3 : (n + 2 : Nat) ≠ n + 3 := by omega
  have h4 : (n + 2 : Nat) ≠ n := by omega
  have h5 : (n : Nat) ∈ [n, a] := by simp
  have h6 : (n + 4 : Nat) ∉ [n, a] := by simp; omega
  have h7 : (n + 3 : Nat) ∉ [n, a] := by simp; omega
  have h8 : (n + 2 : Nat) ≠ n + 1 := by omega
  have h9 : (n + 1 : Nat) ∈ [n + 1, b] := by simp
  have h10 : (n + 4 : Nat) ∉ [n + 1, b] := by simp; omega
  have h11 : (n + 3 : Nat) ∉ [n + 1, b] := by simp; omega
  have h12 : (n : Nat) ∉ [n + 1, b] := by simp; omega
  have h13 : (n + 1 : Nat) ∉ [n, a] := by simp; omega
  exact ⟨h1, h2, h3, h4, h5, h6, h7, h8, h9, h10, h11, h12, h13⟩
def iZipB (K : PySem.W.Frag) (ta : TA) : TI := fun σ H R => ta σ H fun vs H1 => ∃ a b b1 b2 xs ys, vs = [.ref a, .ref b] ∧ SqB K b1 H1 a xs ∧ SqB K b2 H1 b ys ∧ R (ItzB K b1 b2 a b) H1
theorem pi_zipB {X : Cx} {e e2 : Expr} {ta : TA} {p pos tpos : Pos} {elts : List Expr} {kk : Nat} (hg : Gl X "zip") (hm : X.mg "zip" = none) (ha : PA X [e, e2] ta)
    (hs : starEach [e, e2] X.env = (false, eval e X.env) :: starEach [e2] X.env := by rfl) (hpl : (backTo pos (starEach [e2] X.env)).any (·.1) = false := by rfl) :
    PI X (.Tuple elts kk tpos) (.Call (.Name "zip" p) [e, e2] [] pos) (iZipB X.K ta) := by
  refine ⟨fun pins s σ H R I h => ?_⟩
  refine Call_ (ld_blt I hg hm PyProof.Rows.boot_zip (PyProof.Rows.callWith_type1 (thn (ha.run pos pins s σ H _ I h) fun us s1 ⟨vs, H1, I1, r1, q1⟩ => ?_) hs hpl))
  obtain ⟨a, b, b1, b2, xs, ys, ex, hqx, hqy, q⟩ := q1
  subst ex
  cases r1 with
  | cons r rr =>
    cases rr with
    | cons r' rr =>
      cases rr
      cases r
      cases r'
      obtain ⟨its, rv, p1, _⟩ := SqB.get I1 hqx
      obtain ⟨its2, rv2, p2, _⟩ := SqB.get I1 hqy
      have la : a < s1.heap.objs.size := p1.lt
      have lb : b < s1.heap.objs.size := p2.lt
      refine zip_begins2 (begins_sq b1 a its.toArray) (begins_sq b2 b its2.toArray) p1 p2 fun h' hz hTI hTO h1 h2 hsz hk => wpAny_pyIter_zip hz ?_
      have I2 : Inv X pins σ H1 { s1 with heap := h' } := I1.kept (t' := s1.toks) hk
      have sep : ZipSep2 (s1.heap.objs.size + 4) (s1.heap.objs.size + 2) (s1.heap.objs.size + 3) s1.heap.objs.size (s1.heap.objs.size + 1) [s1.heap.objs.size, a] [s1.heap.objs.size + 1, b] := by
        exact zsep la lb
      refine ⟨s1.heap.objs.size + 4, [s1.heap.objs.size + 4, s1.heap.objs.size + 2, s1.heap.objs.size + 3, s1.heap.objs.size, s1.heap.objs.size + 1], _, _, H1, rfl, I2, turn_zipB b1 b2 sep, ⟨hz, hTI, ⟨_, _, hTO⟩, isIt_new h1, isIt_new h2⟩, fun c hcm => ?_, q⟩
      have e' : c = s1.heap.objs.size + 4 ∨ c = s1.heap.objs.size + 2 ∨ c = s1.heap.objs.size + 3 ∨ c = s1.heap.objs.size ∨ c = s1.heap.objs.size + 1 := by simpa using hcm
      have hle : s1.heap.objs.size ≤ c := by
        rcases e' with z | z | z | z | z <;> rw [z] <;> first | exact Nat.le_add_right _ _ | exact Nat.le_refl _
      exact I1.fpOk hle (I1.hok.fresh hle)
def zipD (ds es : List D) : List D := List.zipWith (fun a b => .tuple [a, b]) ds es
def aZip (m1 m2 : ME) : MA := fun ρ Q => m1 ρ fun d => m2 ρ fun e => match itemsS d, itemsS e with
  | some ds, some es => ds.length ≤ sizeLine → es.length ≤ sizeLine → Q (zipD ds es)
  | _, _ => False
theorem Wk.zip {I : SI} {W : DW} {K : PySem.W.Frag} {σ : St} {ρ : En} {H : Hp} {b1 b2 : Bool} {a b : Addr} {xs ys : List V} {ds es : List D} {objs objs2 : List (Addr × HO)} (w : SeqW I W K σ ρ H b1 a xs objs) (w2 : SeqW I W K σ ρ H b2 b ys objs2)
    (r : RepA K (avA W I.own σ ρ) (unl W.L H) xs ds) (r2 : RepA K (avA W I.own σ ρ) (unl W.L H) ys es) : Wk I W K σ ρ H (ItzB K b1 b2 a b) (zipD ds es) :=
  ⟨objs ++ objs2, fun p hp => (List.mem_append.mp hp).elim (w.keeps p) (w2.keeps p), fun H' av' l hk c _ i => by
    have q1 : SqB K b1 H' a xs := w.sqB l fun p hp => hk p (List.mem_append_left _ hp)
    have q2 : SqB K b2 H' b ys := w2.sqB l fun p hp => hk p (List.mem_append_right _ hp)
    refine ⟨fun d hd => ?_, fun h => ⟨xs, ys, q1, q2, by unfold zipD at h; rw [List.length_zipWith] at h; rw [r.len, r2.len]; omega⟩⟩
    unfold zipD at hd
    rw [List.getElem?_zipWith] at hd
    split at hd
    · rename_i d1 d2 g1 g2
      cases hd
      obtain ⟨v, hv, rv⟩ := r.get g1
      obtain ⟨v2, hv2, rv2⟩ := r2.get g2
      refine ⟨⟨xs, ys, v, v2, q1, q2, hv, hv2⟩, fun x H'' y => ?_⟩
      obtain ⟨T, x', y', o, e1, e2, eo, e3, e4, e5⟩ := (show ∃ T x' y' o, x = .ref T ∧ H' T = none ∧ o.dict = none ∧ H'' = upd H' T (tupH [x', y'] o) ∧ (∀ xs, SqB K b1 H' a xs → xs[i]? = some x') ∧ ∀ ys, SqB K b2 H' b ys → ys[i]? = some y' from y)
      have f1 := e4 xs q1
      have f2 := e5 ys q2
      rw [hv] at f1; cases f1
      rw [hv2] at f2; cases f2
      exact .inr ⟨T, _, _, o, e1, e2, eo, e3, (by rw [sizeLine_eq]; exact (by omega : (2 : Nat) ≤ 16777216)), rfl, .cons (rv.mono c) (.cons (rv2.mono c) .nil)⟩
    · cases hd⟩
theorem di_zip {I : SI} {X : Cx} {e e2 : Expr} {m1 m2 : ME} {p pos tpos : Pos} {elts : List Expr} {kk : Nat} {pr : PR} (hg : Gl X "zip") (hm : X.mg "zip" = none) (h1 : DE I X e m1) (h2 : DQ I X e2 m2)
    (hs : starEach [e, e2] X.env = (false, eval e X.env) :: starEach [e2] X.env := by rfl) (hs2 : starEach [e2] X.env = [(false, eval e2 X.env)] := by rfl) (hpl : (backTo pos (starEach [e2] X.env)).any (·.1) = false := by rfl) :
    DI pr I X (.Tuple elts kk tpos) (.Call (.Name "zip" p) [e, e2] [] pos) (aZip m1 m2) :=
  pi_imp (pi_zipB hg hm (pa_cons h1 (pa_cons h2 pa_nil hs2) hs) hs hpl) fun σ H R ⟨W, ρ, Qd, ok, S, _, hm, f⟩ => ⟨W, ρ, _, ok, S, hm, fun v H1 d q e1 S1 r1 => ⟨W, ρ, _, ok, S1, q, fun v2 H2 d2 q e2 S2 sq => by
    split at q
    · rename_i ds es hds hes
      obtain ⟨b1, a, xs, objs, rfl, w, z, r⟩ := sqd_some (e2.rep ok r1).sqd hds
      obtain ⟨b2, b, ys, objs2, rfl, w2, z2, r2⟩ := sqd_some sq hes
      exact ⟨a, b, b1, b2, xs, ys, rfl, w.sqB S2.lkd fun p hp => (w.keeps p hp).1, w2.sqB S2.lkd fun p hp => (w2.keeps p hp).1, f _ _ _ (q (by rw [← r.len]; exact z) (by rw [← r2.len]; exact z2)) (e1.trans e2) S2 (Wk.zip w w2 r r2)⟩
    · exact q.elim⟩⟩
end PyD
namespace PyD
open PySem PySem.Spec L2
open PyProof.Rows hiding St
theorem lc_inner {I : SI} {K : PySem.W.Frag} {W : DW} {σ : St} {ρ : En} {H4 : Hp} {J : It} {es : List D} {T : Addr} {vs ts : List Nat} {g : MG} {t : MT} {e : ME} {P : Nat → List D → Prop} {PF : List D → Prop} {Nx : Hp → Prop} {acc0 : List D} {xs0 : List V}
    (ok : WOk I (W.add T)) (S4 : SR I (W.add T) K σ H4 ρ) (hl : ∀ i ∈ I.lk, i ∈ I.own) (nl : W.L.lookup T = none) (n0 : W.H0 T = none) (nbx : ¬ W.bx T) (hv : ∀ v ∈ vs, v ∉ I.own) (hb : ∀ v ∈ vs, I.bs ≠ some v) (hts : ∀ v ∈ ts, v ∈ vs)
    (wk : Wk I (W.add T) K σ ρ H4 J es) (hT : H4 T = some (.lst xs0)) (hz0 : xs0.length ≤ sizeLine) (ra0 : RepA K (avA (W.add T) I.own σ ρ) (unl W.L H4) xs0 acc0) (p0 : P 0 acc0)
    (step : ∀ i d acc, es[i]? = some d → P i acc → g d (wipeD ρ vs) fun ρ1 => t ρ1 fun c => if c = true then e ρ1 fun y => acc.length < sizeLine ∧ P (i + 1) (acc ++ [y]) else P (i + 1) acc) (last : ∀ acc, P es.length acc → PF acc)
    (fin : ∀ H' acc xs, PF acc → SR I (W.add T) K σ H' ρ → H' T = some (.lst xs) → xs.length ≤ sizeLine → RepA K (avA (W.add T) I.own σ ρ) (unl W.L H') xs acc → (∀ b o, b ≠ T → unl W.L H4 b = some o → ¬ W.bx b → unl W.L H' b = some o) → Nx H') :
    ∃ W1 : Nat → Nat → Hp → Prop, (∃ m, W1 0 m H4) ∧ ∀ j k H, W1 j k H →
      (J.stop j H ∧ Nx H) ∨ (J.go j H ∧ ∃ Nx1 : Hp → Prop, (∀ H', Nx1 H' → ∃ k', k' < k ∧ W1 (j + 1) k' H') ∧ ∀ x H', J.yld j H x H' → tG I K ts g x (wipe σ vs) H' fun σ3 H5 => wipe σ3 vs = wipe σ vs ∧ tT I K t σ3 H5 fun b H6 =>
        if b = true then tD I K e σ3 H6 fun y H7 => ∃ acc, H7 T = some (.lst acc) ∧ acc.length < sizeLine ∧ Nx1 (upd H7 T (.lst (acc ++ [y]))) else Nx1 H6) := by
  have aT : (W.add T).av T := .inr rfl
  let St1 : Hp → Prop := fun H' => ∀ b o, b ≠ T → unl W.L H4 b = some o → ¬ W.bx b → unl W.L H' b = some o
  refine ⟨fun i mm H' => mm = es.length - i ∧ i ≤ es.length ∧ ∃ acc xs, P i acc ∧ SR I (W.add T) K σ H' ρ ∧ H' T = some (.lst xs) ∧ xs.length ≤ sizeLine ∧ RepA K (avA (W.add T) I.own σ ρ) (unl W.L H') xs acc ∧ St1 H',
    ⟨_, rfl, Nat.zero_le _, acc0, xs0, p0, S4, hT, hz0, ra0, fun b o _ h _ => h⟩, ?_⟩
  rintro i mm H' ⟨rfl, hi, acc, xs, pa, S', hx, hz, ra, st⟩
  -- what is not kept back
  have av1 : ∀ b, ¬ avA (W.add T) I.own σ ρ b → b ≠ T ∧ ¬ W.bx b := fun b n => ⟨fun z => n (.inl (.inr z)), fun z => n (.inl (ok.bxav b z))⟩
  have keep : ∀ {objs : List (Addr × HO)}, (∀ p ∈ objs, unl W.L H4 p.1 = some p.2 ∧ (¬ avA (W.add T) I.own σ ρ p.1 ∨ ∃ i ∈ I.lk, σ[i]? = some (some (.ref p.1)) ∧ ∃ d, ρ[i]? = some (some d))) → ∀ p ∈ objs, unl W.L H' p.1 = some p.2 := fun {objs} o1 p hp => by
    obtain ⟨a, n⟩ := o1 p hp
    rcases n with n | ⟨k, hk, hs, d, hd⟩
    · exact st _ _ (av1 _ n).1 a (av1 _ n).2
    · obtain ⟨a', h1, _, h2, _⟩ := S4.own k d hd (hl k hk)
      rw [hs] at h1; cases h1
      exact st _ _ (fun z => h2 (z ▸ aT)) a fun z => h2 (ok.bxav _ z)
  by_cases hlt : i < es.length
  · have hd : es[i]? = some es[i] := List.getElem?_eq_getElem hlt
    have SW : SR I (W.add T) K (wipeD σ vs) H' (wipeD ρ vs) := S'.wipe hv hb
    obtain ⟨objs, o1, o2⟩ := wk
    have cm : Cm (avA (W.add T) I.own σ ρ) (avA (W.add T) I.own (wipeD σ vs) (wipeD ρ vs)) (unl W.L H4) (unl W.L H') :=
      ⟨fun b o n h z => n ((avA_wipe hv b).mp z), fun b u _ n r => rd_up r fun o h => st b o (av1 b n).1 h (av1 b n).2, fun b ys n h => st b _ (av1 b n).1 h (av1 b n).2⟩
    obtain ⟨h1, _⟩ := o2 H' _ S'.lkd (keep o1) cm (fun b xs h => SW.tupAv h) i
    obtain ⟨go, yl⟩ := h1 _ hd
    refine .inr ⟨go, fun H5 => i + 1 ≤ es.length ∧ ∃ acc xs, P (i + 1) acc ∧ SR I (W.add T) K σ H5 ρ ∧ H5 T = some (.lst xs) ∧ xs.length ≤ sizeLine ∧ RepA K (avA (W.add T) I.own σ ρ) (unl W.L H5) xs acc ∧ St1 H5, fun H5 ⟨h1, w⟩ => ⟨_, by omega, rfl, h1, w⟩, fun x H'' y => ?_⟩
    obtain ⟨S2, e2, r⟩ := YlD.sr (W := W.add T) ok SW (yl x H'' y)
    rw [wipe_eq]
    refine ⟨W.add T, wipeD ρ vs, es[i], _, ok, S2, hl, r, step i _ acc hd pa, fun σ3 H3 ρ3 q3 S3 k3 key3 o3 ⟨hH, ln⟩ => ?_⟩
    subst hH
    have w3 : wipeD σ3 vs = wipeD σ vs := wipeD_same (by rw [ln, wipeD_len]) fun j hj => by rw [(o3 j fun z => hj (hts j z)).1, wipeD_out hj]
    refine ⟨by rw [wipe_eq, w3], W.add T, ρ3, _, ok, S3, q3, fun b H6 q4 e4 S6 => ?_⟩
    have hU' : unl W.L H' T = some (.lst xs) := by rw [unl_none nl]; exact hx
    cases b with
    | false =>
      simp only [Bool.false_eq_true, if_false] at q4 ⊢
      have e24 : ∀ b o, unl W.L H' b = some o → ¬ W.bx b → unl W.L H6 b = some o := fun b o h n => e4 b o (e2 b o h n) n
      refine ⟨hlt, acc, xs, q4, S'.back ok S6 aT fun b o _ => e24 b o, ?_, hz, ra.mono ?_, fun b o hn h n => e24 b o (st b o hn h n) n⟩
      · have := e24 T _ hU' nbx
        rw [unl_none nl] at this; exact this
      · exact ⟨fun _ _ n _ => n, fun b u _ n r => rd_up r fun o h => e24 b o h (av1 b n).2, fun b ys n h => e24 b _ h (av1 b n).2⟩
    | true =>
      simp only [if_true] at q4 ⊢
      refine ⟨W.add T, ρ3, _, ok, S6, q4, fun yv H5 yd q5 e5 S5 r5 => ?_⟩
      have e25 : ∀ b o, unl W.L H' b = some o → ¬ W.bx b → unl W.L H5 b = some o := fun b o h n => e5 b o (e4 b o (e2 b o h n) n) n
      have hT5 : H5 T = some (.lst xs) := by
        have := e25 T _ hU' nbx
        rw [unl_none nl] at this; exact this
      have S6 : SR I (W.add T) K σ H5 ρ := S'.back ok S5 aT fun b o _ => e25 b o
      have nbx' : ¬ (W.add T).bx T := nbx
      have S7 : SR I (W.add T) K σ (upd H5 T (.lst (xs ++ [yv]))) ρ := S6.wrAv ok aT nbx' n0 nl rfl
      have hU7 : unl W.L (upd H5 T (.lst (xs ++ [yv]))) = upd (unl W.L H5) T (.lst (xs ++ [yv])) := unl_upd nl
      have neT : ∀ b, ¬ avA (W.add T) I.own σ ρ b → b ≠ T := fun b n => (av1 b n).1
      have av2 : ∀ b, ¬ avA (W.add T) I.own σ ρ b → ¬ W.bx b := fun b n => (av1 b n).2
      refine ⟨xs, hT5, by rw [ra.len]; exact q5.1, hlt, acc ++ [yd], xs ++ [yv], q5.2, S7, upd_same, ?_, RepA.app (ra.mono ?_) (.cons (r5.mono ?_) .nil), fun b o hn h n => ?_⟩
      · have := q5.1
        rw [List.length_append, ra.len]; exact this
      · exact ⟨fun _ _ n _ => n, fun b u _ n r => rd_up r fun o h => by rw [hU7, upd_ne (neT b n)]; exact e25 b o h (av2 b n), fun b ys n h => by rw [hU7, upd_ne (neT b n)]; exact e25 b _ h (av2 b n)⟩
      · have key : ∀ b, avA (W.add T) I.own σ3 ρ3 b ↔ avA (W.add T) I.own σ ρ b := fun b => (key3 b).trans (avA_wipe hv b)
        exact ⟨fun b _ n _ z => n ((key b).mpr z), fun b u _ n r => rd_up r fun o h => by rw [hU7, upd_ne (neT b fun z => n ((key b).mpr z))]; exact h, fun b ys n h => by rw [hU7, upd_ne (neT b fun z => n ((key b).mpr z))]; exact h⟩
      · rw [hU7, upd_ne hn]
        exact e25 b o (st b o hn h n) n
  · have e : i = es.length := by omega
    subst e
    refine .inl ⟨?_, fin H' acc xs (last _ pa) S' hx hz ra st⟩
    obtain ⟨objs, o1, o2⟩ := wk
    refine (o2 H' (avA (W.add T) I.own σ ρ) S'.lkd (keep o1) ?_ (fun b xs h => S'.tupAv h) _).2 (Nat.le_refl _)
    exact ⟨fun b o n h z => n z, fun b u _ n r => rd_up r fun o h => st b o (av1 b n).1 h (av1 b n).2, fun b ys n h => st b _ (av1 b n).1 h (av1 b n).2⟩
def mLc2 (vs : List Nat) (m : MA) (g : MG) (t : MT) (vs1 : List Nat) (m1 : MA) (g1 : MG) (t1 : MT) (e : ME) : ME := fun ρ Q => m ρ fun ds => ∃ P : Nat → List D → Prop, P 0 [] ∧
  (∀ i d acc, ds[i]? = some d → P i acc → g d (wipeD ρ vs) fun ρ1 => t ρ1 fun c => if c = true then m1 ρ1 fun es => ∃ P1 : Nat → List D → Prop, P1 0 acc ∧
      (∀ j d acc, es[j]? = some d → P1 j acc → g1 d (wipeD ρ1 vs1) fun ρ2 => t1 ρ2 fun c => if c = true then e ρ2 fun y => acc.length < sizeLine ∧ P1 (j + 1) (acc ++ [y]) else P1 (j + 1) acc) ∧ ∀ acc, P1 es.length acc → P (i + 1) acc
    else P (i + 1) acc) ∧ ∀ acc, P ds.length acc → Q (.list acc)
theorem lc2_run {pr : PR} {I : SI} {X : Cx} {W : DW} {σ : St} {ρ : En} {H : Hp} {Q : VK} {Qd : D → Prop} {m m1 : MA} {g g1 : MG} {t t1 : MT} {e : ME} {vs ts vs1 ts1 js : List Nat} (ok : WOk I W) (S : SR I W X.K σ H ρ) (hpr : pr W σ H) (hl : ∀ i ∈ I.lk, i ∈ I.own) (hj : ∀ j ∈ js, j ∈ I.own)
    (hv : ∀ v ∈ vs, v ∉ I.own) (hb : ∀ v ∈ vs, I.bs ≠ some v) (hts : ∀ v ∈ ts, v ∈ vs) (hvs1 : ∀ v ∈ vs1, v ∈ vs) (hts1 : ∀ v ∈ ts1, v ∈ vs1) (hm : mLc2 vs m g t vs1 m1 g1 t1 e ρ Qd) (f : FinF I W X.K σ ρ H Qd Q) :
    tLc2 (tI pr (I.lock js) X.K m) (tG (I.lock js) X.K ts g) (tT (I.lock js) X.K t) (tI noPr (I.lock js) X.K m1) (tG (I.lock js) X.K ts1 g1) (tT (I.lock js) X.K t1) (tD (I.lock js) X.K e) vs vs1 σ H Q := by
  refine ⟨W, ρ, _, ok.lock, S.lock, hpr, hm, fun J H1 ds q e1 S1 wk => ?_⟩
  obtain ⟨P, p0, step, last⟩ := q
  intro T hT
  have S1' : SR I W X.K σ H1 ρ := ⟨S1.len, S1.lkd, S1.val, fun i d h n => by
    obtain ⟨a, h1, h2, h3, h4, h5⟩ := S1.own i d h n
    obtain ⟨a', h1', _, _, _, h5'⟩ := S.own i d h n
    rw [h1] at h1'; cases h1'
    exact ⟨a, h1, h2, h3, h4, h5'⟩, S1.inj, S1.fr, S1.avt, S1.box, S1.bsl⟩
  have hl' : ∀ i ∈ (I.lock js).lk, i ∈ (I.lock js).own := fun i hi => (List.mem_append.mp hi).elim (hj i) (hl i)
  have nl : W.L.lookup T = none := S1.lkd.free hT
  have nU : unl W.L H1 T = none := S1.freshU hT
  have nav : ¬ W.av T := fun z => S1'.fresh hT (.inl z)
  have nbx : ¬ W.bx T := fun z => nav (ok.bxav T z)
  have n0 : W.H0 T = none := by
    cases h : W.H0 T with
    | none => rfl
    | some o => have := S1.fr T o h nbx; rw [nU] at this; cases this
  have ok' : WOk (I.lock js) (W.add T) := ok.lock.add T nl
  have SN : SR (I.lock js) (W.add T) X.K σ (upd H1 T (.lst [])) ρ := S1.newAdd ok.lock hT rfl
  have aT : (W.add T).av T := .inr rfl
  let St1 : Hp → Prop := fun H' => ∀ b o, unl W.L H1 b = some o → ¬ W.bx b → unl W.L H' b = some o
  refine ⟨fun i mm H' => mm = ds.length - i ∧ i ≤ ds.length ∧ ∃ acc xs, P i acc ∧ SR (I.lock js) (W.add T) X.K σ H' ρ ∧ H' T = some (.lst xs) ∧ xs.length ≤ sizeLine ∧ RepA X.K (avA (W.add T) I.own σ ρ) (unl W.L H') xs acc ∧ St1 H',
    ⟨_, rfl, Nat.zero_le _, [], [], p0, SN, upd_same, Nat.zero_le _, .nil, fun b o h n => by
      rw [unl_upd nl, upd_ne]
      · exact h
      · rintro rfl; rw [nU] at h; cases h⟩, ?_⟩
  rintro i mm H' ⟨rfl, hi, acc, xs, pa, S', hx, hz, ra, st⟩
  by_cases hlt : i < ds.length
  · have hd : ds[i]? = some ds[i] := List.getElem?_eq_getElem hlt
    have SW : SR (I.lock js) (W.add T) X.K (wipeD σ vs) H' (wipeD ρ vs) := S'.wipe hv hb
    obtain ⟨objs, o1, o2⟩ := wk
    have av1 : ∀ b, ¬ avA W I.own σ ρ b → ¬ W.bx b := fun b n z => n (.inl (ok.bxav b z))
    have cm : Cm (avA W (I.lock js).own σ ρ) (avA (W.add T) (I.lock js).own (wipeD σ vs) (wipeD ρ vs)) (unl W.L H1) (unl W.L H') := by
      refine ⟨fun b o n h z => ?_, fun b u _ n r => rd_up r fun o h => st b o h (av1 b n), fun b ys n h => st b _ h (av1 b n)⟩
      rcases (avA_wipe hv b).mp z with (z | z) | z
      · exact n (.inl z)
      · rw [z, nU] at h; cases h
      · exact n (.inr z)
    obtain ⟨h1, _⟩ := o2 H' _ S'.lkd (fun p hp => by
      obtain ⟨a, n⟩ := o1 p hp
      refine st _ _ a ?_
      rcases n with n | ⟨k, hk, hs, d, hd⟩
      · exact av1 _ n
      · exact S1'.ownbx ok hd (hl' k hk) hs) cm (fun b xs h => SW.tupAv h) i
    obtain ⟨go, yl⟩ := h1 _ hd
    refine .inr ⟨go, fun H5 => i + 1 ≤ ds.length ∧ ∃ acc xs, P (i + 1) acc ∧ SR (I.lock js) (W.add T) X.K σ H5 ρ ∧ H5 T = some (.lst xs) ∧ xs.length ≤ sizeLine ∧ RepA X.K (avA (W.add T) I.own σ ρ) (unl W.L H5) xs acc ∧ St1 H5, fun H5 ⟨h1, w⟩ => ⟨_, by omega, rfl, h1, w⟩, fun x H'' y => ?_⟩
    obtain ⟨S2, e2, r⟩ := YlD.sr (W := W.add T) ok' SW (yl x H'' y)
    rw [wipe_eq]
    refine ⟨W.add T, wipeD ρ vs, ds[i], _, ok', S2, hl', r, step i _ acc hd pa, fun σ3 H3 ρ3 q3 S3 k3 key3 o3 ⟨hH, ln⟩ => ?_⟩
    subst hH
    have w3 : wipeD σ3 vs = wipeD σ vs := wipeD_same (by rw [ln, wipeD_len]) fun j hj => by rw [(o3 j fun z => hj (hts j z)).1, wipeD_out hj]
    refine ⟨by rw [wipe_eq, w3], W.add T, ρ3, _, ok', S3, q3, fun b H4 q4 e4 S4 => ?_⟩
    have hU' : unl W.L H' T = some (.lst xs) := by rw [unl_none nl]; exact hx
    have av2 : ∀ b, ¬ avA (W.add T) I.own σ ρ b → ¬ W.bx b := fun b n z => n (.inl (.inl (ok.bxav b z)))
    -- the names of the block are the names of the def, for what is kept back
    have key : ∀ b, avA (W.add T) I.own σ3 ρ3 b ↔ avA (W.add T) I.own σ ρ b := fun b => (key3 b).trans (avA_wipe hv b)
    cases b with
    | false =>
      simp only [Bool.false_eq_true, if_false] at q4 ⊢
      have e24 : ∀ b o, unl W.L H' b = some o → ¬ W.bx b → unl W.L H4 b = some o := fun b o h n => e4 b o (e2 b o h n) n
      refine ⟨hlt, acc, xs, q4, S'.back ok' S4 aT fun b o _ => e24 b o, ?_, hz, ra.mono ?_, fun b o h n => e24 b o (st b o h n) n⟩
      · have := e24 T _ hU' nbx
        rw [unl_none nl] at this; exact this
      · exact ⟨fun _ _ n _ => n, fun b u _ n r => rd_up r fun o h => e24 b o h (av2 b n), fun b ys n h => e24 b _ h (av2 b n)⟩
    | true =>
      simp only [if_true] at q4 ⊢
      refine ⟨W.add T, ρ3, _, ok', S4, trivial, q4, fun J1 H5 es q5 e5 S5 wk1 => ?_⟩
      obtain ⟨P1, p10, step1, last1⟩ := q5
      have e25 : ∀ b o, unl W.L H' b = some o → ¬ W.bx b → unl W.L H5 b = some o := fun b o h n => e5 b o (e4 b o (e2 b o h n) n) n
      have hT5 : H5 T = some (.lst xs) := by
        have := e25 T _ hU' nbx
        rw [unl_none nl] at this; exact this
      refine lc_inner (P := P1) (PF := P (i + 1)) ok' S5 hl' nl n0 nbx (fun v h => hv v (hvs1 v h)) (fun v h => hb v (hvs1 v h)) hts1 wk1 hT5 hz (ra.mono ?_) p10 step1 last1 fun H6 acc6 xs6 p6 S6 hx6 hz6 ra6 st6 => ?_
      · exact ⟨fun b _ n _ z => n ((key b).mp z), fun b u _ n r => rd_up r fun o h => e25 b o h (av2 b n), fun b ys n h => e25 b _ h (av2 b n)⟩
      · refine ⟨hlt, acc6, xs6, p6, S'.back ok' S6 aT fun b o hn h n => st6 b o hn (e25 b o h n) n, hx6, hz6, ra6.mono ⟨fun b _ n _ z => n ((key b).mpr z), fun _ _ _ _ r => r, fun _ _ _ h => h⟩, fun b o h n => ?_⟩
        have hbT : b ≠ T := fun z => by rw [z, nU] at h; cases h
        exact st6 b o hbT (e25 b o (st b o h n) n) n
  · have e : i = ds.length := by omega
    subst e
    refine .inl ⟨?_, f T H' _ (last _ pa) ?_ ?_ (.lst (by rw [unl_none nl]; exact hx) hz ra) nav n0 nl ?_⟩
    · obtain ⟨objs, o1, o2⟩ := wk
      have av1 : ∀ b, ¬ avA W I.own σ ρ b → ¬ W.bx b := fun b n z => n (.inl (ok.bxav b z))
      refine (o2 H' (avA (W.add T) (I.lock js).own σ ρ) S'.lkd (fun p hp => ?_) ?_ (fun b xs h => S'.tupAv h) _).2 (Nat.le_refl _)
      · obtain ⟨a, n⟩ := o1 p hp
        refine st _ _ a ?_
        rcases n with n | ⟨k, hk, hs, d, hd⟩
        · exact av1 _ n
        · exact S1'.ownbx ok hd (hl' k hk) hs
      · refine ⟨fun b o n h z => ?_, fun b u _ n r => rd_up r fun o h => st b o h (av1 b n), fun b ys n h => st b _ h (av1 b n)⟩
        rcases z with (z | z) | z
        · exact n (.inl z)
        · rw [z, nU] at h; cases h
        · exact n (.inr z)
    · exact fun b o h n => st b o (e1 b o h n) n
    · exact ⟨S'.len, S'.lkd, S'.val, fun i d h n => by
        obtain ⟨a, h1, h2, h3, h4, h5⟩ := S'.own i d h n
        obtain ⟨a', h1', _, _, _, h5'⟩ := S.own i d h n
        rw [h1] at h1'; cases h1'
        exact ⟨a, h1, h2, h3, h4, h5'⟩, S'.inj, S'.fr, S'.avt, S'.box, S'.bsl⟩
    · cases h : unl W.L H T with
      | none => rfl
      | some o => have := e1 T o h nbx; rw [nU] at this; cases this
/-- what a comprehension's rule asks of its slots, two generators -/
def Lc2Ok (I : SI) (js vs ts vs1 ts1 : List Nat) : Prop := LcOk I js vs ts ∧ (∀ v ∈ vs1, v ∈ vs) ∧ ∀ v ∈ ts1, v ∈ vs1
section
variable {I : SI} {X : Cx} {elt tg iter tg1 iter1 : Expr} {ifs ifs1 : List Expr} {scope : Scope} {pos spos py : Pos} {y : Str} {m m1 : MA} {g g1 : MG} {t t1 : MT} {e : ME} {ts ts1 : List Nat}
theorem df_lc2 (own : List (Str × Nat)) (js vs1 : List Nat) (hk : Lc2Ok I js (own.map (·.2)) ts vs1 ts1) (hl : ∀ i ∈ I.lk, i ∈ I.own) (hc : X.calm = true) (hN : X.N.Nodup) (hi : DI noPr (I.lock js) X tg iter m) (ok : BlkOk X.N X.env.scope scope own)
    (hg : ∀ (s : Shared) (H : Hp) (C : Addr) (cl : List (Str × Addr)) (fp : List Addr), DG (I.lock js) (X.blk s H scope (compEnvC scope cl C X.env) fp) tg ts g)
    (ht : ∀ (s : Shared) (H : Hp) (C : Addr) (cl : List (Str × Addr)) (fp : List Addr), DTs (I.lock js) (X.blk s H scope (compEnvC scope cl C X.env) fp) ifs t)
    (hi1 : ∀ (s : Shared) (H : Hp) (C : Addr) (cl : List (Str × Addr)) (fp : List Addr), DI noPr (I.lock js) (X.blk s H scope (compEnvC scope cl C X.env) fp) tg1 iter1 m1)
    (hg1 : ∀ (s : Shared) (H : Hp) (C : Addr) (cl : List (Str × Addr)) (fp : List Addr), DG (I.lock js) (X.blk s H scope (compEnvC scope cl C X.env) fp) tg1 ts1 g1)
    (ht1 : ∀ (s : Shared) (H : Hp) (C : Addr) (cl : List (Str × Addr)) (fp : List Addr), DTs (I.lock js) (X.blk s H scope (compEnvC scope cl C X.env) fp) ifs1 t1)
    (he : ∀ (s : Shared) (H : Hp) (C : Addr) (cl : List (Str × Addr)) (fp : List Addr), DE (I.lock js) (X.blk s H scope (compEnvC scope cl C X.env) fp) elt e)
    (hs : ∀ x, foldedSetIterable iter X.env x = pure x := by intro _; rfl) (hs1 : ∀ env x, foldedSetIterable iter1 env x = pure x := by intro _ _; rfl) :
    DF I X (.ListComp elt [⟨tg, iter, ifs, 0⟩, ⟨tg1, iter1, ifs1, 0⟩] scope pos) (mLc2 (own.map (·.2)) m g t vs1 m1 g1 t1 e) :=
  pe_imp (pe_lc2 (wi1 := tI noPr (I.lock js) X.K m1) (g := tG (I.lock js) X.K ts g) (tt := tT (I.lock js) X.K t) (g1 := tG (I.lock js) X.K ts1 g1) (tt1 := tT (I.lock js) X.K t1) (te := tD (I.lock js) X.K e) hc hN hi ok hk.2.1 hg ht hi1 hg1 ht1 he hs hs1)
    fun σ H Q ⟨W, ρ, Qd, okW, S, hm, f⟩ => lc2_run (pr := noPr) okW S trivial hl hk.1.1 hk.1.2.1 hk.1.2.2.1 hk.1.2.2.2 hk.2.1 hk.2.2 hm f
theorem ds_setLc2O (i : Nat) (own : List (Str × Nat)) (js vs1 : List Nat) (hk : Lc2Ok I js (own.map (·.2)) ts vs1 ts1) (ho : i ∈ I.own) (hkl : i ∉ I.lk) (hb : I.bs ≠ some i) (hc : X.calm = true) (hN : X.N.Nodup) (hy : X.N[i]? = some y) (hyl : X.env.scope.names.lookup y = some .local)
    (hsw : swapsWith (.ListComp elt [⟨tg, iter, ifs, 0⟩, ⟨tg1, iter1, ifs1, 0⟩] scope pos) (some (.Name y py)) spos.line X.env = pure true) (hi : DI noPr (I.lock js) X tg iter m) (ok : BlkOk X.N X.env.scope scope own)
    (hg : ∀ (s : Shared) (H : Hp) (C : Addr) (cl : List (Str × Addr)) (fp : List Addr), DG (I.lock js) (X.blk s H scope (compEnvC scope cl C X.env) fp) tg ts g)
    (ht : ∀ (s : Shared) (H : Hp) (C : Addr) (cl : List (Str × Addr)) (fp : List Addr), DTs (I.lock js) (X.blk s H scope (compEnvC scope cl C X.env) fp) ifs t)
    (hi1 : ∀ (s : Shared) (H : Hp) (C : Addr) (cl : List (Str × Addr)) (fp : List Addr), DI noPr (I.lock js) (X.blk s H scope (compEnvC scope cl C X.env) fp) tg1 iter1 m1)
    (hg1 : ∀ (s : Shared) (H : Hp) (C : Addr) (cl : List (Str × Addr)) (fp : List Addr), DG (I.lock js) (X.blk s H scope (compEnvC scope cl C X.env) fp) tg1 ts1 g1)
    (ht1 : ∀ (s : Shared) (H : Hp) (C : Addr) (cl : List (Str × Addr)) (fp : List Addr), DTs (I.lock js) (X.blk s H scope (compEnvC scope cl C X.env) fp) ifs1 t1)
    (he : ∀ (s : Shared) (H : Hp) (C : Addr) (cl : List (Str × Addr)) (fp : List Addr), DE (I.lock js) (X.blk s H scope (compEnvC scope cl C X.env) fp) elt e)
    (hs : ∀ x, foldedSetIterable iter X.env x = pure x := by intro _; rfl) (hs1 : ∀ env x, foldedSetIterable iter1 env x = pure x := by intro _ _; rfl) :
    DS I X (.Assign [.Name y py] (.ListComp elt [⟨tg, iter, ifs, 0⟩, ⟨tg1, iter1, ifs1, 0⟩] scope pos) spos) (sSet i (mLc2 (own.map (·.2)) m g t vs1 m1 g1 t1 e)) :=
  ps_imp (ps_setLc2 (wi1 := tI noPr (I.lock js) X.K m1) (g := tG (I.lock js) X.K ts g) (tt := tT (I.lock js) X.K t) (g1 := tG (I.lock js) X.K ts1 g1) (tt1 := tT (I.lock js) X.K t1) (te := tD (I.lock js) X.K e) hc hN hy hyl hsw hi ok hk.2.1 hg ht hi1 hg1 ht1 he hs hs1)
    fun D σ H ⟨W, ρ, M, okW, S, hl, hm, E⟩ => lc2_run (pr := noPr) okW S trivial hl hk.1.1 hk.1.2.1 hk.1.2.2.1 hk.1.2.2.2 hk.2.1 hk.2.2 hm fun p H' d q e1 S1 ow nv n0 nl nf => by
    obtain ⟨S2, key⟩ := S1.setO okW ho hb ow nv n0 nl
    exact E.nx _ _ _ q S2 (Kp.setO okW hl S e1 nf hkl key)
theorem ds_setLc2V (i : Nat) (own : List (Str × Nat)) (js vs1 : List Nat) (hk : Lc2Ok I js (own.map (·.2)) ts vs1 ts1) (ho : i ∉ I.own) (hb : I.bs ≠ some i) (hc : X.calm = true) (hN : X.N.Nodup) (hy : X.N[i]? = some y) (hyl : X.env.scope.names.lookup y = some .local)
    (hsw : swapsWith (.ListComp elt [⟨tg, iter, ifs, 0⟩, ⟨tg1, iter1, ifs1, 0⟩] scope pos) (some (.Name y py)) spos.line X.env = pure true) (hi : DI noPr (I.lock js) X tg iter m) (ok : BlkOk X.N X.env.scope scope own)
    (hg : ∀ (s : Shared) (H : Hp) (C : Addr) (cl : List (Str × Addr)) (fp : List Addr), DG (I.lock js) (X.blk s H scope (compEnvC scope cl C X.env) fp) tg ts g)
    (ht : ∀ (s : Shared) (H : Hp) (C : Addr) (cl : List (Str × Addr)) (fp : List Addr), DTs (I.lock js) (X.blk s H scope (compEnvC scope cl C X.env) fp) ifs t)
    (hi1 : ∀ (s : Shared) (H : Hp) (C : Addr) (cl : List (Str × Addr)) (fp : List Addr), DI noPr (I.lock js) (X.blk s H scope (compEnvC scope cl C X.env) fp) tg1 iter1 m1)
    (hg1 : ∀ (s : Shared) (H : Hp) (C : Addr) (cl : List (Str × Addr)) (fp : List Addr), DG (I.lock js) (X.blk s H scope (compEnvC scope cl C X.env) fp) tg1 ts1 g1)
    (ht1 : ∀ (s : Shared) (H : Hp) (C : Addr) (cl : List (Str × Addr)) (fp : List Addr), DTs (I.lock js) (X.blk s H scope (compEnvC scope cl C X.env) fp) ifs1 t1)
    (he : ∀ (s : Shared) (H : Hp) (C : Addr) (cl : List (Str × Addr)) (fp : List Addr), DE (I.lock js) (X.blk s H scope (compEnvC scope cl C X.env) fp) elt e)
    (hs : ∀ x, foldedSetIterable iter X.env x = pure x := by intro _; rfl) (hs1 : ∀ env x, foldedSetIterable iter1 env x = pure x := by intro _ _; rfl) :
    DS I X (.Assign [.Name y py] (.ListComp elt [⟨tg, iter, ifs, 0⟩, ⟨tg1, iter1, ifs1, 0⟩] scope pos) spos) (sSet i (mLc2 (own.map (·.2)) m g t vs1 m1 g1 t1 e)) :=
  ps_imp (ps_setLc2 (wi1 := tI noPr (I.lock js) X.K m1) (g := tG (I.lock js) X.K ts g) (tt := tT (I.lock js) X.K t) (g1 := tG (I.lock js) X.K ts1 g1) (tt1 := tT (I.lock js) X.K t1) (te := tD (I.lock js) X.K e) hc hN hy hyl hsw hi ok hk.2.1 hg ht hi1 hg1 ht1 he hs hs1)
    fun D σ H ⟨W, ρ, M, okW, S, hl, hm, E⟩ => lc2_run (pr := noPr) (Qd := fun d => M.nx (ρ.set i (some d))) okW S trivial hl hk.1.1 hk.1.2.1 hk.1.2.2.1 hk.1.2.2.2 hk.2.1 hk.2.2 hm (FinE.toF fun v H' d q e1 S1 r => by
    obtain ⟨S2, key⟩ := S1.setV ho hb r
    exact E.nx _ _ _ q S2 ((e1.kp okW S hl).trans (Kp.setV S1 hl ho key)))
end
end PyD
namespace PyD
open PySem PySem.Spec L2
open PyProof.Rows hiding St
section
variable {I : SI} {X : Cx} {e : Expr} {m : ME} {apos cpos pos : Pos}
def pUpper : D → (D → Prop) → Prop
  | .str x, Q => x.length ≤ 5592405 ∧ Q (.str (Txt.upper x))
  | _, _ => False
theorem de_upper (he : DE I X e m) (hbase : attributeBase e "upper" X.env (eval e X.env) = eval e X.env := by rfl) (hline : (apos.endLine == cpos.line) = true := by rfl) : DE I X (.Call (.Attribute e "upper" apos) [] [] cpos) (m1 pUpper m) :=
  pe_imp (pe_bm0 PySem.F.plainAttrs_str PySem.F.slot_str_upper PySem.F.type_str_upper mt_upper he hbase hline) fun σ H Q ⟨W, ρ, Qd, ok, S, hm, f⟩ => ⟨W, ρ, _, ok, S, hm, fun v H1 d q e1 S1 r => by
    cases d <;> try exact False.elim q
    cases r
    exact ⟨rfl, _, rfl, rfl, q.1, (f.ex e1).here S1 (.str _) q.2⟩⟩
/-- l.count(x) -/
def rCountD (X : Cx) : V → List V → Hp → VK → Prop := fun x xs H Q => ∃ (y : V) (a : Addr) (vs : List V) (ds : List D) (d : D), x = .ref a ∧ xs = [y] ∧ SqL X.K H a vs ∧ Dp X.K H x (.list ds) ∧ Dp X.K H y d ∧ PyData.plainAll ds = true ∧ d.plain = true ∧ X.A.units + 1 + min (PyData.depthAll ds) d.depth < cLine ∧
  Q (.int ((ds.countP fun y => PyData.eqv y d : Nat) : Int)) H
theorem mt_countD : MtR X "list.count" (rCountD X) := by
  intro pins s σ H x xs v us Q Iv rx rxs h
  obtain ⟨y, a, vs, ds, d, rfl, rfl, hs, hl, hy, p1, p2, hu, q⟩ := h
  cases rx
  obtain ⟨u, rfl, ru⟩ := rxs.one
  obtain ⟨bs, r1⟩ := Dp.reads Iv d y u hy ru
  obtain ⟨as, r2⟩ := Dp.reads Iv (.list ds) (.ref a) (.ref a) hl rfl
  cases r2 with
  | list h1 h2 h3 h4 =>
    exact SeqAt.count_list_data ⟨_, h1, h2, _, h3⟩ h4 r1 p1 p2 hu ⟨.int _, H, Iv.tok _, ⟨_, rfl⟩, q⟩
def mCount (m ma : ME) : ME := fun ρ Q => m ρ fun d => match d with
  | .list ds => ma ρ fun d => (PyData.plainAll ds = true ∧ d.plain = true ∧ d.depth ≤ 150) ∧ Q (.int ((ds.countP fun y => PyData.eqv y d : Nat) : Int))
  | _ => False
theorem de_count {a : Expr} {ma : ME} (hu : X.A.units + 200 < cLine) (he : DB I X e m) (ha : DE I X a ma) (hbase : attributeBase e "count" X.env (eval e X.env) = eval e X.env := by rfl)
    (hfew : ((backTo cpos (starEach [a] X.env)).all (fun x => !x.1) && (backToKw cpos (keywordEach [] X.env)).all (fun x => x.1.isSome)
      && decide ([a].length + ([] : List Keyword).length + (if ([] : List Keyword).isEmpty then 0 else 1) < 30)) = true := by rfl)
    (hline : (apos.endLine == cpos.line) = true := by rfl) (hs : starEach [a] X.env = (false, eval a X.env) :: starEach [] X.env := by rfl) (hplain : (backTo cpos (starEach [] X.env)).any (·.1) = false := by rfl) :
    DE I X (.Call (.Attribute e "count" apos) [a] [] cpos) (mCount m ma) :=
  pe_imp (pe_bm PySem.F.plainAttrs_list PySem.F.slot_list_count PySem.F.type_list_count mt_countD he (pa_cons ha pa_nil hs) hbase hfew hline hs hplain) fun σ H Q ⟨W, ρ, Qd, ok, S, hm, f⟩ => ⟨W, ρ, _, ok, S, hm, fun v H1 d q e1 S1 t => by
    cases d <;> try exact False.elim q
    obtain ⟨c, xs, rfl, r, z, ra⟩ := t.list
    refine ⟨.inl ⟨rfl, xs, S1.sqL r⟩, W, ρ, _, ok, S1, q, fun v2 H2 d2 q e2 S2 r2 => ?_⟩
    have t2 := e2.top ok t
    obtain ⟨c', xs', ec, r', z', ra'⟩ := t2.list
    cases ec
    exact ⟨v2, c, xs', _, d2, rfl, rfl, S2.sqL r', t2.dp S2.lkd (by rw [PyData.plain]; exact q.1.1), (Top.rep r2).dp (bx := W.bx) S2.lkd q.1.2.1, q.1.1, q.1.2.1, by omega, (f.ex (e1.trans e2)).here S2 (.int _) q.2⟩⟩
end
end PyD
namespace PyD
open PySem PySem.Spec L2
open PyProof.Rows hiding St
def fLoad : MF := fun ds Q => ∀ i, Q (.int i)
def fDraw : MF := fun ds Q => ∃ many : Int, ds = [.int many] ∧ 0 < many ∧ many < 1073741824 ∧ ∀ d : Int, 0 ≤ d → d < many → Q (.int d)
theorem fnOk_falseB {P : Program} {w : World} {K : PySem.W.Frag} {mg : Str → Option Value} {base : Heap} {f : Addr} {fd : FuncData} {ps : List Str} {k n : Nat} {B} : FnOk P w K mg base CX0 k f fd ps (spB K B n fun _ _ => False) :=
  ⟨fun _ _ _ _ ⟨_, _, _, _, _, _, _, _, _, h, _⟩ => h.elim, fun _ _ _ _ _ _ _ _ _ _ _ _ _ ⟨_, _, _, _, _, _, _, _, _, h, _⟩ => h.elim⟩
theorem at20 {x y : D} : atD [x, y] 0 = some x := rfl
theorem at21 {x y : D} : atD [x, y] 1 = some y := rfl
theorem at30 {x y z : D} : atD [x, y, z] 0 = some x := rfl
theorem at31 {x y z : D} : atD [x, y, z] 1 = some y := rfl
theorem at32 {x y z : D} : atD [x, y, z] 2 = some z := rfl
end PyD
namespace PyD
open PySem PySem.Spec L2
open PyProof.Rows hiding St
/-- what is known of a written tuple -/
structure GT (K : PySem.W.Frag) (a : Addr) (xs : List V) : Prop where
  w : WrT K a xs
  d : ∃ o, K.lookup a = some o ∧ o.dict = none
theorem GT.of {K : PySem.W.Frag} {a : Addr} {its : Array Value} {n : Nat} {sl : Array (Option Value)} {xs : List V} (l : K.lookup a = some ⟨.type "tuple", none, .seq its n, sl⟩) (hz : its.size ≤ sizeLine) (r : Vals xs its.toList) : GT K a xs :=
  ⟨⟨_, its, n, l, rfl, rfl, hz, r⟩, ⟨_, l, rfl⟩⟩
section
variable {I : SI} {X : Cx}
theorem db_gT {x : Str} {a : Addr} {xs : List V} {ds : List D} {pos : Pos} (hg : Gl X x) (hm : X.mg x = some (.ref a)) (w : GT X.K a xs) (ra : ∀ av H, RepA X.K av H xs ds) (hz : xs.length ≤ 1000 := by decide) (hd : (x == ("__debug__" : Str)) = false := by decide) : DB I X (.Name x pos) (mC (.tuple ds)) :=
  pe_imp (pe_glob (v := .ref a) hg hm rfl hd) fun σ H Q ⟨W, ρ, Qd, ok, S, hq, f⟩ => f _ H _ hq (Ex.refl W H) S (.wrt w.w (by rw [sizeLine_eq]; omega) (ra _ _) w.d)
end
end PyD
namespace PyD
open PySem PySem.Spec L2 PySem.W
open PyProof.Rows hiding St
abbrev dlt {α : Type} [DecidableEq α] [DatumOrd α] (a b : α) : Bool := DatumOrd.lt a b
class OrdOk (α : Type) [DecidableEq α] [DatumOrd α] : Prop where
  total : ∀ a b : α, DatumOrd.lt a b = false → DatumOrd.lt b a = false → a = b
section
variable {α : Type} [DecidableEq α] [DatumOrd α]
theorem dlt_irrefl (a : α) : DatumOrd.lt a a = false := by rw [← DatumOrd.lt_eq]; exact dataLt_self _
theorem dlt_trans {a b c : α} (h1 : DatumOrd.lt a b = true) (h2 : DatumOrd.lt b c = true) : DatumOrd.lt a c = true := by
  rw [← DatumOrd.lt_eq] at h1 h2 ⊢; exact lex_trans _ _ _ h1 h2
theorem dlt_neg {a b c : α} (h : DatumOrd.lt a c = true) : DatumOrd.lt a b = true ∨ DatumOrd.lt b c = true := by
  rw [← DatumOrd.lt_eq] at h; rw [← DatumOrd.lt_eq, ← DatumOrd.lt_eq]; exact lex_negTrans _ _ _ h
theorem dlt_asymm {a b : α} (h : DatumOrd.lt a b = true) : DatumOrd.lt b a = false := by
  cases e : DatumOrd.lt b a with
  | false => rfl
  | true => exact absurd (dlt_trans h e) (by rw [dlt_irrefl]; decide)
/-- not less, in a row -/
theorem dle_trans {a b c : α} (h1 : DatumOrd.lt b a = false) (h2 : DatumOrd.lt c b = false) : DatumOrd.lt c a = false := by
  cases e : DatumOrd.lt c a with
  | false => rfl
  | true => rcases dlt_neg (b := b) e with h | h <;> simp_all
theorem dlt_ne {a b : α} (h : DatumOrd.lt a b = true) : a ≠ b := by rintro rfl; rw [dlt_irrefl] at h; cases h
theorem dlt_or [OrdOk α] {a b : α} (h : a ≠ b) : DatumOrd.lt a b = true ∨ DatumOrd.lt b a = true := by
  cases e : DatumOrd.lt a b with
  | true => exact .inl rfl
  | false => cases e2 : DatumOrd.lt b a with
    | true => exact .inr rfl
    | false => exact absurd (OrdOk.total a b e e2) h
end
instance : OrdOk Int := ⟨fun a b h1 h2 => by
  have h1 : decide (a < b) = false := h1
  have h2 : decide (b < a) = false := h2
  simp at h1 h2; omega⟩
instance : OrdOk Bool := ⟨fun a b h1 h2 => by cases a <;> cases b <;> first | rfl | exact absurd h1 (by decide) | exact absurd h2 (by decide)⟩
instance : OrdOk Str := ⟨fun a b h1 h2 => by
  rw [← DatumOrd.lt_eq] at h1 h2
  have := lex_total _ _ h1 h2
  have e : [(Sum.inr a.cps.toList : Int ⊕ List Nat)] = [Sum.inr b.cps.toList] := this
  injection e with e _
  injection e with e
  exact str_of_cps e⟩
section
variable {α β γ δ : Type} [DecidableEq α] [DatumOrd α] [OrdOk α] [DecidableEq β] [DatumOrd β] [OrdOk β] [DecidableEq γ] [DatumOrd γ] [OrdOk γ] [DecidableEq δ] [DatumOrd δ] [OrdOk δ]
theorem listLt_total : ∀ xs ys : List α, listLt xs ys = false → listLt ys xs = false → xs = ys
  | [], [], _, _ => rfl
  | [], _ :: _, h, _ => by cases h
  | _ :: _, [], _, h => by cases h
  | x :: xs, y :: ys, h1, h2 => by
    unfold listLt at h1 h2
    by_cases e : x = y
    · subst e; rw [if_pos rfl] at h1 h2; rw [listLt_total xs ys h1 h2]
    · rw [if_neg e] at h1; rw [if_neg (Ne.symm e)] at h2; exact absurd (OrdOk.total x y h1 h2) e
instance : OrdOk (List α) := ⟨listLt_total⟩
instance : OrdOk (Tup α) := ⟨fun a b h1 h2 => by cases a; cases b; exact congrArg Tup.mk (listLt_total _ _ h1 h2)⟩
theorem lt_pair (p q : α × β) : DatumOrd.lt p q = if p.1 = q.1 then DatumOrd.lt p.2 q.2 else DatumOrd.lt p.1 q.1 := rfl
instance : OrdOk (α × β) := ⟨fun a b h1 h2 => by
  rw [lt_pair] at h1 h2
  by_cases e : a.1 = b.1
  · rw [if_pos e] at h1; rw [if_pos e.symm] at h2; exact Prod.ext e (OrdOk.total _ _ h1 h2)
  · rw [if_neg e] at h1; rw [if_neg (Ne.symm e)] at h2; exact absurd (OrdOk.total _ _ h1 h2) e⟩
theorem lt_t3 (p q : T3 α β γ) : DatumOrd.lt p q = if p.a = q.a then (if p.b = q.b then (DatumOrd.lt p.c q.c) else DatumOrd.lt p.b q.b) else DatumOrd.lt p.a q.a := rfl
instance : OrdOk (T3 α β γ) := ⟨fun a b h1 h2 => by
  rw [lt_t3] at h1 h2
  by_cases e : a.a = b.a
  · rw [if_pos e] at h1; rw [if_pos e.symm] at h2
    by_cases e2 : a.b = b.b
    · rw [if_pos e2] at h1; rw [if_pos e2.symm] at h2; exact T3.same e e2 (OrdOk.total _ _ h1 h2)
    · rw [if_neg e2] at h1; rw [if_neg (Ne.symm e2)] at h2; exact absurd (OrdOk.total _ _ h1 h2) e2
  · rw [if_neg e] at h1; rw [if_neg (Ne.symm e)] at h2; exact absurd (OrdOk.total _ _ h1 h2) e⟩
theorem lt_t4 (p q : T4 α β γ δ) : DatumOrd.lt p q = if p.a = q.a then (if p.b = q.b then (if p.c = q.c then (DatumOrd.lt p.d q.d) else DatumOrd.lt p.c q.c) else DatumOrd.lt p.b q.b) else DatumOrd.lt p.a q.a := rfl
instance : OrdOk (T4 α β γ δ) := ⟨fun a b h1 h2 => by
  rw [lt_t4] at h1 h2
  by_cases e : a.a = b.a
  · rw [if_pos e] at h1; rw [if_pos e.symm] at h2
    by_cases e2 : a.b = b.b
    · rw [if_pos e2] at h1; rw [if_pos e2.symm] at h2
      by_cases e3 : a.c = b.c
      · rw [if_pos e3] at h1; rw [if_pos e3.symm] at h2; exact T4.same e e2 e3 (OrdOk.total _ _ h1 h2)
      · rw [if_neg e3] at h1; rw [if_neg (Ne.symm e3)] at h2; exact absurd (OrdOk.total _ _ h1 h2) e3
    · rw [if_neg e2] at h1; rw [if_neg (Ne.symm e2)] at h2; exact absurd (OrdOk.total _ _ h1 h2) e2
  · rw [if_neg e] at h1; rw [if_neg (Ne.symm e)] at h2; exact absurd (OrdOk.total _ _ h1 h2) e⟩
end
section
variable {α : Type} [DecidableEq α] [DatumOrd α]
theorem minOf_cons (x y : α) (xs : List α) : minOf x (y :: xs) = minOf (if DatumOrd.lt y x = true then y else x) xs := rfl
theorem maxOf_cons (x y : α) (xs : List α) : maxOf x (y :: xs) = maxOf (if DatumOrd.lt x y = true then y else x) xs := rfl
theorem minOf_ok : ∀ (x : α) (xs : List α), minOf x xs ∈ x :: xs ∧ ∀ y ∈ x :: xs, DatumOrd.lt y (minOf x xs) = false
  | x, [] => ⟨List.mem_cons_self, fun y hy => by rw [List.mem_singleton] at hy; rw [hy]; exact dlt_irrefl _⟩
  | x, z :: xs => by
    rw [minOf_cons]
    obtain ⟨h1, h2⟩ := minOf_ok (if DatumOrd.lt z x = true then z else x) xs
    have hx : DatumOrd.lt x (if DatumOrd.lt z x = true then z else x) = false ∧ DatumOrd.lt z (if DatumOrd.lt z x = true then z else x) = false := by
      by_cases q : DatumOrd.lt z x = true
      · rw [if_pos q]; exact ⟨dlt_asymm q, dlt_irrefl _⟩
      · rw [if_neg q]; exact ⟨dlt_irrefl _, by simpa using q⟩
    refine ⟨?_, fun y hy => ?_⟩
    · rcases List.mem_cons.mp h1 with h | h
      · rw [h]; split
        · exact List.mem_cons_of_mem _ List.mem_cons_self
        · exact List.mem_cons_self
      · exact List.mem_cons_of_mem _ (List.mem_cons_of_mem _ h)
    · have h0 := h2 _ List.mem_cons_self
      rcases List.mem_cons.mp hy with rfl | hy
      · exact dle_trans h0 hx.1
      · rcases List.mem_cons.mp hy with rfl | hy
        · exact dle_trans h0 hx.2
        · exact h2 y (List.mem_cons_of_mem _ hy)
theorem maxOf_ok : ∀ (x : α) (xs : List α), maxOf x xs ∈ x :: xs ∧ ∀ y ∈ x :: xs, DatumOrd.lt (maxOf x xs) y = false
  | x, [] => ⟨List.mem_cons_self, fun y hy => by rw [List.mem_singleton] at hy; rw [hy]; exact dlt_irrefl _⟩
  | x, z :: xs => by
    rw [maxOf_cons]
    obtain ⟨h1, h2⟩ := maxOf_ok (if DatumOrd.lt x z = true then z else x) xs
    have hx : DatumOrd.lt (if DatumOrd.lt x z = true then z else x) x = false ∧ DatumOrd.lt (if DatumOrd.lt x z = true then z else x) z = false := by
      by_cases q : DatumOrd.lt x z = true
      · rw [if_pos q]; exact ⟨dlt_asymm q, dlt_irrefl _⟩
      · rw [if_neg q]; exact ⟨dlt_irrefl _, by simpa using q⟩
    refine ⟨?_, fun y hy => ?_⟩
    · rcases List.mem_cons.mp h1 with h | h
      · rw [h]; split
        · exact List.mem_cons_of_mem _ List.mem_cons_self
        · exact List.mem_cons_self
      · exact List.mem_cons_of_mem _ (List.mem_cons_of_mem _ h)
    · have h0 := h2 _ List.mem_cons_self
      rcases List.mem_cons.mp hy with rfl | hy
      · exact dle_trans hx.1 h0
      · rcases List.mem_cons.mp hy with rfl | hy
        · exact dle_trans hx.2 h0
        · exact h2 y (List.mem_cons_of_mem _ hy)
/-- min of a list that is not empty, by what it is -/
def IsMin (m : α) (xs : List α) : Prop := m ∈ xs ∧ ∀ y ∈ xs, DatumOrd.lt y m = false
def IsMax (m : α) (xs : List α) : Prop := m ∈ xs ∧ ∀ y ∈ xs, DatumOrd.lt m y = false
theorem IsMin.uniq [OrdOk α] {m n : α} {xs ys : List α} (h : ∀ x, x ∈ xs ↔ x ∈ ys) (a : IsMin m xs) (b : IsMin n ys) : m = n :=
  OrdOk.total _ _ (b.2 _ ((h _).mp a.1)) (a.2 _ ((h _).mpr b.1))
theorem IsMax.uniq [OrdOk α] {m n : α} {xs ys : List α} (h : ∀ x, x ∈ xs ↔ x ∈ ys) (a : IsMax m xs) (b : IsMax n ys) : m = n :=
  OrdOk.total _ _ (a.2 _ ((h _).mpr b.1)) (b.2 _ ((h _).mp a.1))
theorem pMin_list (hd : Datum.depth α ≤ 150) {xs : List α} (hx : xs ≠ []) {Q : D → Prop} (h : ∀ m, IsMin m xs → Q (Datum.toD m)) : pMin [.list (xs.map Datum.toD)] Q := by
  cases xs with
  | nil => exact absurd rfl hx
  | cons x xs =>
    show MinOk _ _ ∧ Q (minD _ _)
    exact ⟨minOk_d hd x xs, by rw [minD_map]; exact h _ (minOf_ok x xs)⟩
theorem pMin_tup (hd : Datum.depth α ≤ 150) {xs : List α} (hx : xs ≠ []) {Q : D → Prop} (h : ∀ m, IsMin m xs → Q (Datum.toD m)) : pMin [.tuple (xs.map Datum.toD)] Q := by
  cases xs with
  | nil => exact absurd rfl hx
  | cons x xs =>
    show MinOk _ _ ∧ Q (minD _ _)
    exact ⟨minOk_d hd x xs, by rw [minD_map]; exact h _ (minOf_ok x xs)⟩
theorem pMax_list (hd : Datum.depth α ≤ 150) {xs : List α} (hx : xs ≠ []) {Q : D → Prop} (h : ∀ m, IsMax m xs → Q (Datum.toD m)) : pMax [.list (xs.map Datum.toD)] Q := by
  cases xs with
  | nil => exact absurd rfl hx
  | cons x xs =>
    show MinOk _ _ ∧ Q (maxD _ _)
    exact ⟨minOk_d hd x xs, by rw [maxD_map]; exact h _ (maxOf_ok x xs)⟩
theorem pMax_tup (hd : Datum.depth α ≤ 150) {xs : List α} (hx : xs ≠ []) {Q : D → Prop} (h : ∀ m, IsMax m xs → Q (Datum.toD m)) : pMax [.tuple (xs.map Datum.toD)] Q := by
  cases xs with
  | nil => exact absurd rfl hx
  | cons x xs =>
    show MinOk _ _ ∧ Q (maxD _ _)
    exact ⟨minOk_d hd x xs, by rw [maxD_map]; exact h _ (maxOf_ok x xs)⟩
end
section
variable {α : Type} [DecidableEq α] [DatumOrd α]
abbrev dle (a b : α) : Bool := !DatumOrd.lt b a
abbrev srt (xs : List α) : List α := xs.mergeSort fun a b => !DatumOrd.lt b a
def Asc (xs : List α) : Prop := xs.Pairwise fun a b => DatumOrd.lt a b = true
def AscE (xs : List α) : Prop := xs.Pairwise fun a b => DatumOrd.lt b a = false
theorem srt_perm (xs : List α) : (srt xs).Perm xs := List.mergeSort_perm _ _
theorem srt_mem {xs : List α} {x : α} : x ∈ srt xs ↔ x ∈ xs := (srt_perm xs).mem_iff
theorem srt_asc (xs : List α) : AscE (srt xs) := by
  have := List.pairwise_mergeSort (le := fun a b : α => !DatumOrd.lt b a) (fun a b c h1 h2 => by simp at *; exact dle_trans h1 h2) (fun a b => by
    cases e : DatumOrd.lt b a with
    | false => rfl
    | true => rw [dlt_asymm e]; rfl) xs
  exact this.imp fun h => by simpa using h
theorem AscE.asc [OrdOk α] {xs : List α} (h : AscE xs) (n : xs.Nodup) : Asc xs := (h.and n).imp fun ⟨h1, h2⟩ => (dlt_or h2).resolve_right (by rw [h1]; decide)
theorem Asc.e {xs : List α} (h : Asc xs) : AscE xs := h.imp dlt_asymm
theorem Asc.nodup {xs : List α} (h : Asc xs) : xs.Nodup := h.imp dlt_ne
theorem srt_strict [OrdOk α] {xs : List α} (n : xs.Nodup) : Asc (srt xs) := (srt_asc xs).asc ((srt_perm xs).nodup_iff.mpr n)
/-- what is ascending is told by its members -/
theorem Asc.uniq : ∀ {xs ys : List α}, Asc xs → Asc ys → (∀ x, x ∈ xs ↔ x ∈ ys) → xs = ys
  | [], [], _, _, _ => rfl
  | [], y :: _, _, _, h => by have := (h y).mpr List.mem_cons_self; cases this
  | x :: _, [], _, _, h => by have := (h x).mp List.mem_cons_self; cases this
  | x :: xs, y :: ys, ax, ay, h => by
    have hx := List.pairwise_cons.mp ax
    have hy := List.pairwise_cons.mp ay
    have e : x = y := by
      rcases List.mem_cons.mp ((h x).mp List.mem_cons_self) with e | h1
      · exact e
      · rcases List.mem_cons.mp ((h y).mpr List.mem_cons_self) with e | h2
        · exact e.symm
        · exact absurd (dlt_trans (hx.1 _ h2) (hy.1 _ h1)) (by rw [dlt_irrefl]; decide)
    subst e
    rw [Asc.uniq hx.2 hy.2 fun z => ?_]
    constructor
    · intro hz
      rcases List.mem_cons.mp ((h z).mp (List.mem_cons_of_mem _ hz)) with rfl | h1
      · exact absurd (hx.1 _ hz) (by rw [dlt_irrefl]; decide)
      · exact h1
    · intro hz
      rcases List.mem_cons.mp ((h z).mpr (List.mem_cons_of_mem _ hz)) with rfl | h1
      · exact absurd (hy.1 _ hz) (by rw [dlt_irrefl]; decide)
      · exact h1
/-- and so what is ascending, with repetitions, by its permutation -/
theorem AscE.uniq [OrdOk α] : ∀ {xs ys : List α}, AscE xs → AscE ys → xs.Perm ys → xs = ys
  | [], ys, _, _, h => (List.nil_perm.mp h).symm
  | x :: xs, [], _, _, h => absurd h.length_eq (by simp)
  | x :: xs, y :: ys, ax, ay, h => by
    have hx := List.pairwise_cons.mp ax
    have hy := List.pairwise_cons.mp ay
    have e : x = y := by
      rcases List.mem_cons.mp (h.mem_iff.mp List.mem_cons_self) with e | h1
      · exact e
      · rcases List.mem_cons.mp (h.mem_iff.mpr (List.mem_cons_self (a := y) (l := ys))) with e | h2
        · exact e.symm
        · exact OrdOk.total _ _ (hy.1 _ h1) (hx.1 _ h2)
    subst e
    rw [AscE.uniq hx.2 hy.2 (List.Perm.cons_inv h)]
theorem srt_of [OrdOk α] {xs ys : List α} (h : Asc ys) (hm : ∀ x, x ∈ xs ↔ x ∈ ys) (n : xs.Nodup) : srt xs = ys := Asc.uniq (srt_strict n) h fun x => by rw [srt_mem, hm]
theorem srt_id [OrdOk α] {xs : List α} (h : AscE xs) : srt xs = xs := AscE.uniq (srt_asc xs) h (srt_perm xs)
/-- what sorted takes: tuples that are not empty, or what is no tuple -/
class SortD (α : Type) [DecidableEq α] [DatumOrd α] : Prop where
  sortable : ∀ xs : List α, Sortable (xs.map Datum.toD)
instance : SortD Int := ⟨fun xs => Sortable.others fun b => ⟨(fun h => nomatch h), (fun xs h => nomatch h)⟩⟩
instance : SortD Str := ⟨fun xs => Sortable.others fun b => ⟨(fun h => nomatch h), (fun xs h => nomatch h)⟩⟩
instance : SortD Bool := ⟨fun xs => Sortable.others fun b => ⟨(fun h => nomatch h), (fun xs h => nomatch h)⟩⟩
theorem sortOk_d [SortD α] (hd : Datum.depth α ≤ 150) (xs : List α) : SortOk (xs.map Datum.toD) :=
  ⟨AllAlike.of fun a b => DatumOrd.alike a b, SortD.sortable xs, plainAll_map xs, Nat.le_trans (depthAll_map xs) hd⟩
end
section
variable {α β γ δ : Type} [DecidableEq α] [DatumOrd α] [DecidableEq β] [DatumOrd β] [DecidableEq γ] [DatumOrd γ] [DecidableEq δ] [DatumOrd δ]
instance : SortD (List α) := ⟨fun xs => Sortable.others fun b => ⟨(fun h => nomatch h), (fun xs h => nomatch h)⟩⟩
instance : SortD (α × β) := ⟨fun xs => Sortable.tuples fun b => ⟨_, _, rfl⟩⟩
instance : SortD (T3 α β γ) := ⟨fun xs => Sortable.tuples fun b => ⟨_, _, rfl⟩⟩
instance : SortD (T4 α β γ δ) := ⟨fun xs => Sortable.tuples fun b => ⟨_, _, rfl⟩⟩
/-- sorted(xs) of a list, a tuple -/
theorem pSorted_list [SortD α] (hd : Datum.depth α ≤ 150) {xs : List α} {Q : D → Prop} (h : Q (.list ((srt xs).map Datum.toD))) : pSorted [.list (xs.map Datum.toD)] Q :=
  ⟨_, rfl, sortOk_d hd xs, by rw [sortD_map]; exact h⟩
theorem pSorted_tup [SortD α] (hd : Datum.depth α ≤ 150) {xs : List α} {Q : D → Prop} (h : Q (.list ((srt xs).map Datum.toD))) : pSorted [.tuple (xs.map Datum.toD)] Q :=
  ⟨_, rfl, sortOk_d hd xs, by rw [sortD_map]; exact h⟩
end
theorem nodup_le {α : Type} [DecidableEq α] : ∀ {l m : List α}, l.Nodup → (∀ x ∈ l, x ∈ m) → l.length ≤ m.length
  | [], _, _, _ => Nat.zero_le _
  | x :: l, m, hn, hs => by
    obtain ⟨h1, h2⟩ := List.nodup_cons.mp hn
    have hx : x ∈ m := hs x List.mem_cons_self
    have ih := nodup_le (l := l) (m := m.erase x) h2 fun y hy => by
      have hne : y ≠ x := fun e => h1 (e ▸ hy)
      exact (List.mem_erase_of_ne hne).2 (hs y (List.mem_cons_of_mem _ hy))
    have e := List.length_erase_of_mem hx
    have hp : 0 < m.length := List.length_pos_of_mem hx
    rw [List.length_cons]; omega
end PyD
namespace PyD
open PySem PySem.Spec L2 PySem.W
open PyProof.Rows hiding St
section
variable {α : Type} [DecidableEq α] [Datum α]
theorem inD_map (x : α) (xs : List α) : inD (Datum.toD x) (xs.map Datum.toD) = decide (x ∈ xs) := keys_any Datum.toD (fun a b => Datum.eqv a b) xs x
theorem inOk_map (hd : Datum.depth α ≤ 150) (x : α) (xs : List α) : InOk (Datum.toD x) (xs.map Datum.toD) := ⟨plainAll_map xs, Datum.plain x, Nat.le_trans (Nat.min_le_right _ _) (Nat.le_trans (Datum.depth_le x) hd)⟩
theorem pIn_dl (hd : Datum.depth α ≤ 150) (x : α) (xs : List α) (Q : D → Prop) : pIn (Datum.toD x) (.list (xs.map Datum.toD)) Q ↔ Q (.bool (decide (x ∈ xs))) := by
  show (InOk _ _ ∧ Q (.bool (inD _ _))) ↔ _
  rw [inD_map]; exact ⟨fun h => h.2, fun h => ⟨inOk_map hd x xs, h⟩⟩
theorem pIn_dt (hd : Datum.depth α ≤ 150) (x : α) (xs : List α) (Q : D → Prop) : pIn (Datum.toD x) (.tuple (xs.map Datum.toD)) Q ↔ Q (.bool (decide (x ∈ xs))) := by
  show (InOk _ _ ∧ Q (.bool (inD _ _))) ↔ _
  rw [inD_map]; exact ⟨fun h => h.2, fun h => ⟨inOk_map hd x xs, h⟩⟩
theorem pNotIn_dl (hd : Datum.depth α ≤ 150) (x : α) (xs : List α) (Q : D → Prop) : pNotIn (Datum.toD x) (.list (xs.map Datum.toD)) Q ↔ Q (.bool (!decide (x ∈ xs))) := by
  show (InOk _ _ ∧ Q (.bool (!inD _ _))) ↔ _
  rw [inD_map]; exact ⟨fun h => h.2, fun h => ⟨inOk_map hd x xs, h⟩⟩
theorem pNotIn_dt (hd : Datum.depth α ≤ 150) (x : α) (xs : List α) (Q : D → Prop) : pNotIn (Datum.toD x) (.tuple (xs.map Datum.toD)) Q ↔ Q (.bool (!decide (x ∈ xs))) := by
  show (InOk _ _ ∧ Q (.bool (!inD _ _))) ↔ _
  rw [inD_map]; exact ⟨fun h => h.2, fun h => ⟨inOk_map hd x xs, h⟩⟩
end
abbrev Fu := T3 Str Str Int
def fuD (f : Fu) : D := .tuple [.str f.a, .str f.b, .int f.c]
theorem fuD_d : fuD = (Datum.toD : Fu → D) := rfl
theorem pIn_fl (x : Fu) (xs : List Fu) (Q : D → Prop) : pIn (fuD x) (.list (xs.map fuD)) Q ↔ Q (.bool (decide (x ∈ xs))) := pIn_dl (by decide) x xs Q
theorem pIn_ft (x : Fu) (xs : List Fu) (Q : D → Prop) : pIn (fuD x) (.tuple (xs.map fuD)) Q ↔ Q (.bool (decide (x ∈ xs))) := pIn_dt (by decide) x xs Q
theorem pNotIn_fl (x : Fu) (xs : List Fu) (Q : D → Prop) : pNotIn (fuD x) (.list (xs.map fuD)) Q ↔ Q (.bool (!decide (x ∈ xs))) := pNotIn_dl (by decide) x xs Q
theorem pNotIn_ft (x : Fu) (xs : List Fu) (Q : D → Prop) : pNotIn (fuD x) (.tuple (xs.map fuD)) Q ↔ Q (.bool (!decide (x ∈ xs))) := pNotIn_dt (by decide) x xs Q
theorem pIn_sl (x : Str) (xs : List Str) (Q : D → Prop) : pIn (.str x) (.list (xs.map .str)) Q ↔ Q (.bool (decide (x ∈ xs))) := pIn_dl (by decide) x xs Q
theorem pIn_st (x : Str) (xs : List Str) (Q : D → Prop) : pIn (.str x) (.tuple (xs.map .str)) Q ↔ Q (.bool (decide (x ∈ xs))) := pIn_dt (by decide) x xs Q
theorem pNotIn_sl (x : Str) (xs : List Str) (Q : D → Prop) : pNotIn (.str x) (.list (xs.map .str)) Q ↔ Q (.bool (!decide (x ∈ xs))) := pNotIn_dl (by decide) x xs Q
theorem pNotIn_st (x : Str) (xs : List Str) (Q : D → Prop) : pNotIn (.str x) (.tuple (xs.map .str)) Q ↔ Q (.bool (!decide (x ∈ xs))) := pNotIn_dt (by decide) x xs Q
theorem pIn_s2 (x a b : Str) (Q : D → Prop) : pIn (.str x) (.tuple [.str a, .str b]) Q ↔ Q (.bool (decide (x = a ∨ x = b))) := by
  rw [show (decide (x = a ∨ x = b)) = decide (x ∈ [a, b]) from decide_eq_decide.mpr (by simp)]; exact pIn_dt (by decide) x [a, b] Q
theorem pEq_fu (x y : Fu) (Q : D → Prop) : pEq (fuD x) (fuD y) Q ↔ Q (.bool (decide (x = y))) := pEq_d (by decide) x y Q
theorem pNe_fu (x y : Fu) (Q : D → Prop) : pNe (fuD x) (fuD y) Q ↔ Q (.bool (!decide (x = y))) := pNe_d (by decide) x y Q
theorem pLt_fu (x y : Fu) (Q : D → Prop) : pLt (fuD x) (fuD y) Q ↔ Q (.bool (DatumOrd.lt x y)) := pLt_d (by decide) x y Q
theorem pLt_str (x y : Str) (Q : D → Prop) : pLt (.str x) (.str y) Q ↔ Q (.bool (DatumOrd.lt x y)) := pLt_d (α := Str) (by decide) x y Q
theorem pGt_str (x y : Str) (Q : D → Prop) : pGt (.str x) (.str y) Q ↔ Q (.bool (DatumOrd.lt y x)) := pGt_d (α := Str) (by decide) x y Q
theorem pIx_fu0 (f : Fu) (Q : D → Prop) : pIx (fuD f) (.int 0) Q ↔ Q (.str f.a) := ⟨fun ⟨_, h, q⟩ => by cases h; exact q, fun h => ⟨_, rfl, h⟩⟩
theorem pIx_fu1 (f : Fu) (Q : D → Prop) : pIx (fuD f) (.int 1) Q ↔ Q (.str f.b) := ⟨fun ⟨_, h, q⟩ => by cases h; exact q, fun h => ⟨_, rfl, h⟩⟩
theorem pIx_fu2 (f : Fu) (Q : D → Prop) : pIx (fuD f) (.int 2) Q ↔ Q (.int f.c) := ⟨fun ⟨_, h, q⟩ => by cases h; exact q, fun h => ⟨_, rfl, h⟩⟩
theorem gT_fu (g : MGs) (f : Fu) (ρ : En) (Q : En → Prop) : gT g (fuD f) ρ Q = g [.str f.a, .str f.b, .int f.c] ρ Q := rfl
theorem cut2_3 (x y z : D) : cutD [x, y, z] none (some 2) = [x, y] := rfl
theorem pSl_fu2 (m : ME) (f : Fu) (ρ : En) (Q : D → Prop) (h : m ρ fun d => d = fuD f) : True := trivial
theorem pIx_p0 (x y : D) (Q : D → Prop) : pIx (.tuple [x, y]) (.int 0) Q ↔ Q x := ⟨fun ⟨_, h, q⟩ => by cases h; exact q, fun h => ⟨_, rfl, h⟩⟩
theorem pIx_p1 (x y : D) (Q : D → Prop) : pIx (.tuple [x, y]) (.int 1) Q ↔ Q y := ⟨fun ⟨_, h, q⟩ => by cases h; exact q, fun h => ⟨_, rfl, h⟩⟩
theorem pIx_lm {α : Type} (c : α → D) (xs : List α) (i : Nat) (x : α) (h : xs[i]? = some x) (Q : D → Prop) (q : Q (c x)) : pIx (.list (xs.map c)) (.int (i : Int)) Q := ⟨_, by rw [atD_nat (by omega), Int.toNat_natCast, List.getElem?_map, h]; rfl, q⟩
theorem pIx_tm {α : Type} (c : α → D) (xs : List α) (i : Nat) (x : α) (h : xs[i]? = some x) (Q : D → Prop) (q : Q (c x)) : pIx (.tuple (xs.map c)) (.int (i : Int)) Q := ⟨_, by rw [atD_nat (by omega), Int.toNat_natCast, List.getElem?_map, h]; rfl, q⟩
theorem eqv_str (i j : Str) : PyData.eqv (.str i) (.str j) = decide (i = j) := Datum.eqv (α := Str) i j
theorem eqv_fu (i j : Fu) : PyData.eqv (fuD i) (fuD j) = decide (i = j) := Datum.eqv (α := Fu) i j
section
variable {β : Type} (cv : β → D)
def dS (es : List (Str × β)) : D := dK (es.map (encP PyData.str cv))
theorem hasD_dS {i : Nat} {ρ : En} {es : List (Str × β)} (h : ρ[i]? = some (some (dS cv es))) : hasD i ρ := ⟨_, h⟩
theorem pIx_dS (es : List (Str × β)) (k : Str) (Q : D → Prop) : pIx (dS cv es) (.str k) Q ↔ ∃ v, aget es k = some v ∧ Q (cv v) := by
  show (isKeyK (.str k) = true ∧ ∃ d, dget (es.map (encP PyData.str cv)) (.str k) = some d ∧ Q d) ↔ _
  rw [dget_map PyData.str cv eqv_str]
  constructor
  · rintro ⟨_, d, h, q⟩
    rw [Option.map_eq_some_iff] at h
    obtain ⟨v, hv, rfl⟩ := h
    exact ⟨v, hv, q⟩
  · rintro ⟨v, hv, q⟩
    exact ⟨rfl, _, by rw [hv]; rfl, q⟩
theorem pIn_dS (es : List (Str × β)) (k : Str) (Q : D → Prop) : pIn (.str k) (dS cv es) Q ↔ Q (.bool (aget es k).isSome) := by
  show (isKeyK (.str k) = true ∧ Q (.bool (dget (es.map (encP PyData.str cv)) (.str k)).isSome)) ↔ _
  rw [dget_map PyData.str cv eqv_str, Option.isSome_map]
  exact ⟨fun h => h.2, fun h => ⟨rfl, h⟩⟩
theorem pNotIn_dS (es : List (Str × β)) (k : Str) (Q : D → Prop) : pNotIn (.str k) (dS cv es) Q ↔ Q (.bool (!(aget es k).isSome)) := by
  show (isKeyK (.str k) = true ∧ Q (.bool (!(dget (es.map (encP PyData.str cv)) (.str k)).isSome))) ↔ _
  rw [dget_map PyData.str cv eqv_str, Option.isSome_map]
  exact ⟨fun h => h.2, fun h => ⟨rfl, h⟩⟩
theorem pSetK_dS (es : List (Str × β)) (k : Str) (v : β) (Q : D → Prop) : pSetK (dS cv es) (.str k) (cv v) Q ↔ es.length < sizeLine ∧ Q (dS cv (aput es k v)) := by
  show (isKeyK (.str k) = true ∧ (es.map (encP PyData.str cv)).length < sizeLine ∧ Q (dK (dput (es.map (encP PyData.str cv)) (.str k) (cv v)))) ↔ _
  rw [dput_map PyData.str cv eqv_str, List.length_map]
  exact ⟨fun h => h.2, fun h => ⟨rfl, h⟩⟩
theorem pLen_dS (es : List (Str × β)) (Q : D → Prop) : pLen [dS cv es] Q ↔ Q (.int es.length) := by
  show Q (.int ((es.map (encP PyData.str cv)).length : Nat)) ↔ _
  rw [List.length_map]
theorem aKeys_dS {i : Nat} {ρ : En} {es : List (Str × β)} (h : ρ[i]? = some (some (dS cv es))) {Q : List D → Prop} (hq : Q ((es.map (·.1)).map .str)) : aKeys i ρ Q := by
  unfold aKeys
  rw [h]
  show Q ((es.map (encP PyData.str cv)).map (·.1))
  rw [List.map_map] at hq ⊢
  exact hq
theorem pSorted_dS (es : List (Str × β)) {Q : D → Prop} (h : Q (.list ((srt (es.map (·.1))).map .str))) : pSorted [dS cv es] Q := by
  refine ⟨(es.map (·.1)).map .str, ?_, sortOk_d (α := Str) (by decide) _, ?_⟩
  · show some ((es.map (encP PyData.str cv)).map (·.1)) = _
    rw [List.map_map, List.map_map]; rfl
  · rw [show ((es.map (·.1)).map PyData.str) = (es.map (·.1)).map (Datum.toD (α := Str)) from rfl, sortD_map]; exact h
/-- dict(pairs) -/
def amerge (es ps : List (Str × β)) : List (Str × β) := ps.foldl (fun acc p => aput acc p.1 p.2) es
theorem mergeD_dS : ∀ (ps es : List (Str × β)), mergeD (es.map (encP PyData.str cv)) (ps.map (encP PyData.str cv)) = (amerge es ps).map (encP PyData.str cv)
  | [], es => rfl
  | p :: ps, es => by
    show mergeD (dput (es.map (encP PyData.str cv)) (.str p.1) (cv p.2)) (ps.map (encP PyData.str cv)) = _
    rw [dput_map PyData.str cv eqv_str]; exact mergeD_dS ps _
theorem pairsOf_dS (ps : List (Str × β)) : pairsOf (ps.map fun p => .tuple [.str p.1, cv p.2]) = some (ps.map (encP PyData.str cv)) := by
  induction ps with
  | nil => rfl
  | cons v vs ih => rw [List.map_cons, List.map_cons]; unfold pairsOf; rw [ih]; rfl
theorem keysK_dS (ps : List (Str × β)) : (ps.map (encP PyData.str cv)).all (fun p => isKeyK p.1) = true := by simp [List.all_map]; intros; rfl
theorem pDictP_t (ps : List (Str × β)) {Q : D → Prop} (h : Q (dS cv (amerge [] ps))) : pDictP [.tuple (ps.map fun p => .tuple [.str p.1, cv p.2])] Q := by
  unfold pDictP
  simp only
  rw [pairsOf_dS]
  simp only
  refine ⟨keysK_dS cv ps, ?_⟩
  rw [show mergeD [] (ps.map (encP PyData.str cv)) = _ from mergeD_dS cv ps []]; exact h
theorem pDictP_l (ps : List (Str × β)) {Q : D → Prop} (h : Q (dS cv (amerge [] ps))) : pDictP [.list (ps.map fun p => .tuple [.str p.1, cv p.2])] Q := by
  unfold pDictP
  simp only
  rw [pairsOf_dS]
  simp only
  refine ⟨keysK_dS cv ps, ?_⟩
  rw [show mergeD [] (ps.map (encP PyData.str cv)) = _ from mergeD_dS cv ps []]; exact h
end
section
variable {β : Type} (cv : β → D)
def dF (es : List (Fu × β)) : D := dT (es.map (encP fuD cv))
theorem isKeyT_fu (f : Fu) : isKeyT (fuD f) = true := rfl
theorem hasD_dF {i : Nat} {ρ : En} {es : List (Fu × β)} (h : ρ[i]? = some (some (dF cv es))) : hasD i ρ := ⟨_, h⟩
theorem pIx_dF (es : List (Fu × β)) (k : Fu) (Q : D → Prop) : pIx (dF cv es) (fuD k) Q ↔ ∃ v, aget es k = some v ∧ Q (cv v) := by
  show (isKeyT (fuD k) = true ∧ ∃ d, dget (es.map (encP fuD cv)) (fuD k) = some d ∧ Q d) ↔ _
  rw [dget_map fuD cv eqv_fu]
  constructor
  · rintro ⟨_, d, h, q⟩
    rw [Option.map_eq_some_iff] at h
    obtain ⟨v, hv, rfl⟩ := h
    exact ⟨v, hv, q⟩
  · rintro ⟨v, hv, q⟩
    exact ⟨rfl, _, by rw [hv]; rfl, q⟩
theorem pIn_dF (es : List (Fu × β)) (k : Fu) (Q : D → Prop) : pIn (fuD k) (dF cv es) Q ↔ Q (.bool (aget es k).isSome) := by
  show (isKeyT (fuD k) = true ∧ Q (.bool (dget (es.map (encP fuD cv)) (fuD k)).isSome)) ↔ _
  rw [dget_map fuD cv eqv_fu, Option.isSome_map]
  exact ⟨fun h => h.2, fun h => ⟨rfl, h⟩⟩
theorem pNotIn_dF (es : List (Fu × β)) (k : Fu) (Q : D → Prop) : pNotIn (fuD k) (dF cv es) Q ↔ Q (.bool (!(aget es k).isSome)) := by
  show (isKeyT (fuD k) = true ∧ Q (.bool (!(dget (es.map (encP fuD cv)) (fuD k)).isSome))) ↔ _
  rw [dget_map fuD cv eqv_fu, Option.isSome_map]
  exact ⟨fun h => h.2, fun h => ⟨rfl, h⟩⟩
theorem pSetT_dF (es : List (Fu × β)) (k : Fu) (v : β) (Q : D → Prop) : pSetT (dF cv es) (fuD k) (cv v) Q ↔ es.length < sizeLine ∧ Q (dF cv (aput es k v)) := by
  show (isKeyT (fuD k) = true ∧ (es.map (encP fuD cv)).length < sizeLine ∧ Q (dT (dput (es.map (encP fuD cv)) (fuD k) (cv v)))) ↔ _
  rw [dput_map fuD cv eqv_fu, List.length_map]
  exact ⟨fun h => h.2, fun h => ⟨rfl, h⟩⟩
theorem pLen_dF (es : List (Fu × β)) (Q : D → Prop) : pLen [dF cv es] Q ↔ Q (.int es.length) := by
  show Q (.int ((es.map (encP fuD cv)).length : Nat)) ↔ _
  rw [List.length_map]
theorem aKeys_dF {i : Nat} {ρ : En} {es : List (Fu × β)} (h : ρ[i]? = some (some (dF cv es))) {Q : List D → Prop} (hq : Q ((es.map (·.1)).map fuD)) : aKeys i ρ Q := by
  unfold aKeys
  rw [h]
  show (∀ p ∈ es.map (encP fuD cv), keySz p.1) ∧ Q ((es.map (encP fuD cv)).map (·.1))
  rw [List.map_map] at hq ⊢
  refine ⟨fun p hp => ?_, hq⟩
  obtain ⟨q, _, rfl⟩ := List.mem_map.mp hp
  show 3 ≤ sizeLine
  rw [sizeLine_eq]; omega
theorem pSorted_dF (es : List (Fu × β)) {Q : D → Prop} (h : Q (.list ((srt (es.map (·.1))).map fuD))) : pSorted [dF cv es] Q := by
  refine ⟨(es.map (·.1)).map fuD, ?_, sortOk_d (α := Fu) (by decide) _, ?_⟩
  · show some ((es.map (encP fuD cv)).map (·.1)) = _
    rw [List.map_map, List.map_map]; rfl
  · rw [fuD_d, sortD_map]; exact h
def amergeF (es ps : List (Fu × β)) : List (Fu × β) := ps.foldl (fun acc p => aput acc p.1 p.2) es
theorem mergeD_dF : ∀ (ps es : List (Fu × β)), mergeD (es.map (encP fuD cv)) (ps.map (encP fuD cv)) = (amergeF es ps).map (encP fuD cv)
  | [], es => rfl
  | p :: ps, es => by
    show mergeD (dput (es.map (encP fuD cv)) (fuD p.1) (cv p.2)) (ps.map (encP fuD cv)) = _
    rw [dput_map fuD cv eqv_fu]; exact mergeD_dF ps _
theorem pairsOf_dF (ps : List (Fu × β)) : pairsOf (ps.map fun p => .tuple [fuD p.1, cv p.2]) = some (ps.map (encP fuD cv)) := by
  induction ps with
  | nil => rfl
  | cons v vs ih => rw [List.map_cons, List.map_cons]; unfold pairsOf; rw [ih]; rfl
theorem pDictPT_l (ps : List (Fu × β)) {Q : D → Prop} (h : Q (dF cv (amergeF [] ps))) : pDictPT [.list (ps.map fun p => .tuple [fuD p.1, cv p.2])] Q := by
  unfold pDictPT
  simp only
  rw [pairsOf_dF]
  simp only
  refine ⟨by simp [List.all_map]; intros; rfl, ?_⟩
  rw [show mergeD [] (ps.map (encP fuD cv)) = _ from mergeD_dF cv ps []]; exact h
end
/-- dict(pairs): what it holds -/
theorem amerge_gen {κ β : Type} [DecidableEq κ] : ∀ (ps es : List (κ × β)), (es.map (·.1)).Nodup → ((ps.foldl (fun acc p => aput acc p.1 p.2) es).map (·.1)).Nodup ∧ ∀ k, k ∈ (ps.foldl (fun acc p => aput acc p.1 p.2) es).map (·.1) ↔ k ∈ es.map (·.1) ∨ k ∈ ps.map (·.1)
  | [], es, nd => ⟨nd, fun k => by simp⟩
  | p :: ps, es, nd => by
    obtain ⟨h1, h2⟩ := amerge_gen ps (aput es p.1 p.2) (aput_nodup nd _ _)
    refine ⟨h1, fun k => (h2 k).trans ?_⟩
    rw [aput_keys]
    by_cases h : (aget es p.1).isSome = true
    · rw [if_pos h]
      have := aget_key.mp h
      simp only [List.map_cons, List.mem_cons]
      constructor
      · rintro (h | h); exact .inl h; exact .inr (.inr h)
      · rintro (h | rfl | h); exact .inl h; exact .inl this; exact .inr h
    · rw [if_neg h]; simp only [List.mem_append, List.mem_singleton, List.map_cons, List.mem_cons, List.not_mem_nil, or_false, or_assoc]
theorem foldl_aput_fresh {κ β : Type} [DecidableEq κ] : ∀ (ps es : List (κ × β)), (ps.map (·.1)).Nodup → (∀ k ∈ ps.map (·.1), k ∉ es.map (·.1)) → ps.foldl (fun acc p => aput acc p.1 p.2) es = es ++ ps
  | [], es, _, _ => by simp
  | p :: ps, es, nd, hf => by
    rw [List.map_cons, List.nodup_cons] at nd
    have hn : aget es p.1 = none := by
      cases h : aget es p.1 with
      | none => rfl
      | some v => exact absurd (aget_key.mp (by rw [h]; rfl)) (hf p.1 List.mem_cons_self)
    have he : aput es p.1 p.2 = es ++ [p] := by unfold aput; rw [aget_any, hn]; rfl
    show ps.foldl _ (aput es p.1 p.2) = _
    rw [he, foldl_aput_fresh ps _ nd.2 fun k hk => ?_]
    · simp
    · rw [List.map_append]
      intro h
      rcases List.mem_append.mp h with h | h
      · exact hf k (List.mem_cons_of_mem _ hk) h
      · rw [List.map_singleton, List.mem_singleton] at h
        rw [h] at hk; exact nd.1 hk
theorem amerge_id {β : Type} {ps : List (Str × β)} (nd : (ps.map (·.1)).Nodup) : amerge [] ps = ps := by
  have := foldl_aput_fresh ps [] nd (fun _ _ h => by cases h)
  simpa [amerge] using this
end PyD
namespace PyD
open PySem PySem.Spec L2 PySem.W
open PyProof.Rows hiding St
def Joins (f : Fu) (u v : Str) : Prop := (f.a = u ∧ f.b = v) ∨ (f.b = u ∧ f.a = v)
theorem Joins.sym {f : Fu} {u v : Str} (h : Joins f u v) : Joins f v u := h.elim (fun h => .inr ⟨h.2, h.1⟩) (fun h => .inl ⟨h.2, h.1⟩)
inductive Fire (net : List Fu) (L : List (Str × Int)) : Str → Int → Prop
  | lit {k : Str} {t : Int} : (k, t) ∈ L → Fire net L k t
  | go {u v : Str} {t : Int} {f : Fu} : Fire net L u t → f ∈ net → Joins f u v → Fire net L v (t + f.c)
def Comes (net : List Fu) (L : List (Str × Int)) (k : Str) (t : Int) : Prop := Fire net L k t ∧ ∀ t', Fire net L k t' → t ≤ t'
theorem Comes.uniq {net L k t t'} (h : Comes net L k t) (h' : Comes net L k t') : t = t' := Int.le_antisymm (h.2 _ h'.1) (h'.2 _ h.1)
/-- a table of the moments -/
structure Burnt (net : List Fu) (L : List (Str × Int)) (es : List (Str × Int)) : Prop where
  nd : (es.map (·.1)).Nodup
  is : ∀ k t, aget es k = some t ↔ Comes net L k t
theorem burnt_of {net : List Fu} {L es : List (Str × Int)} (nd : (es.map (·.1)).Nodup) (so : ∀ k t, aget es k = some t → Fire net L k t) (li : ∀ k t, (k, t) ∈ L → ∃ t', aget es k = some t' ∧ t' ≤ t)
    (cl : ∀ u t f v, aget es u = some t → f ∈ net → Joins f u v → ∃ t', aget es v = some t' ∧ t' ≤ t + f.c) : Burnt net L es := by
  have low : ∀ k t, Fire net L k t → ∃ t', aget es k = some t' ∧ t' ≤ t := by
    intro k t h
    induction h with
    | lit h => exact li _ _ h
    | go h hf hj ih =>
      obtain ⟨t1, h1, h2⟩ := ih
      obtain ⟨t2, h3, h4⟩ := cl _ _ _ _ h1 hf hj
      exact ⟨t2, h3, by omega⟩
  refine ⟨nd, fun k t => ⟨fun h => ⟨so k t h, fun t' h' => ?_⟩, fun h => ?_⟩⟩
  · obtain ⟨t2, h1, h2⟩ := low k t' h'
    rw [h] at h1; cases h1; exact h2
  · obtain ⟨t2, h1, h2⟩ := low k t h.1
    have := h.2 _ (so _ _ h1)
    rw [h1, Int.le_antisymm h2 this]
theorem Burnt.dom {net : List Fu} {L es : List (Str × Int)} (B : Burnt net L es) (k : Str) : (aget es k).isSome = true ↔ ∃ t, Comes net L k t := by
  rw [Option.isSome_iff_exists]
  exact ⟨fun ⟨t, h⟩ => ⟨t, (B.is k t).mp h⟩, fun ⟨t, h⟩ => ⟨t, (B.is k t).mpr h⟩⟩
/-- two tables hold the same -/
theorem Burnt.same {net : List Fu} {L es fs : List (Str × Int)} (B : Burnt net L es) (C : Burnt net L fs) (k : Str) : aget es k = aget fs k := by
  cases h : aget es k with
  | some t => exact ((C.is k t).mpr ((B.is k t).mp h)).symm
  | none =>
    cases h' : aget fs k with
    | none => rfl
    | some t => rw [(B.is k t).mpr ((C.is k t).mp h')] at h; cases h
section
variable {net : List Fu} {L : List (Str × Int)}
def PosW (net : List Fu) : Prop := ∀ f ∈ net, 0 < f.c
theorem Fire.nonneg (hw : PosW net) (hl : ∀ p ∈ L, 0 ≤ p.2) {k : Str} {t : Int} (h : Fire net L k t) : 0 ≤ t := by
  induction h with
  | lit h => exact hl _ h
  | go _ hf _ ih => have := hw _ hf; omega
theorem Fire.least (hw : PosW net) (hl : ∀ p ∈ L, 0 ≤ p.2) {k : Str} : ∀ {t : Int}, Fire net L k t → ∃ t0, Comes net L k t0 := by
  have go : ∀ (n : Nat) (t : Int), t.toNat = n → Fire net L k t → ∃ t0, Comes net L k t0 := by
    intro n
    induction n using Nat.strongRecOn with
    | ind n ih =>
      intro t e h
      by_cases c : ∃ t', Fire net L k t' ∧ t' < t
      · obtain ⟨t', h', lt⟩ := c
        have := h.nonneg hw hl
        have := h'.nonneg hw hl
        exact ih t'.toNat (by omega) t' rfl h'
      · exact ⟨t, h, fun t' h' => by
          by_cases q : t ≤ t'
          · exact q
          · exact absurd ⟨t', h', by omega⟩ c⟩
  exact fun {t} h => go _ t rfl h
/-- ways by which fire comes first -/
inductive BP (net : List Fu) (L : List (Str × Int)) : List Fu → Str → Int → Prop
  | lit {k : Str} {t : Int} : (k, t) ∈ L → Comes net L k t → BP net L [] k t
  | go {p : List Fu} {u v : Str} {t : Int} {f : Fu} : BP net L p u t → f ∈ net → Joins f u v → Comes net L v (t + f.c) → BP net L (f :: p) v (t + f.c)
theorem BP.comes {p : List Fu} {k : Str} {t : Int} (h : BP net L p k t) : Comes net L k t := by cases h <;> assumption
theorem bp_of {k : Str} {t : Int} (h : Fire net L k t) : Comes net L k t → ∃ p, BP net L p k t := by
  induction h with
  | lit h => exact fun c => ⟨[], .lit h c⟩
  | @go u v t f h hf hj ih =>
    intro c
    have cu : Comes net L u t := ⟨h, fun t' h' => by have := c.2 _ (.go h' hf hj); omega⟩
    obtain ⟨p, hp⟩ := ih cu
    exact ⟨f :: p, .go hp hf hj c⟩
theorem BP.le (hw : PosW net) {p : List Fu} {k : Str} {t : Int} (h : BP net L p k t) : ∀ f ∈ p, f ∈ net ∧ ∃ u w s, Joins f u w ∧ Comes net L u s ∧ Comes net L w (s + f.c) ∧ s + f.c ≤ t := by
  induction h with
  | lit => intro f hf; cases hf
  | @go p u v t f h hf hj c ih =>
    intro g hg
    have := hw f hf
    rcases List.mem_cons.mp hg with rfl | hg
    · exact ⟨hf, u, v, t, hj, h.comes, c, Int.le_refl _⟩
    · obtain ⟨h1, a, b, s, h2, h3, h4, h5⟩ := ih g hg
      exact ⟨h1, a, b, s, h2, h3, h4, by omega⟩
theorem BP.nodup (hw : PosW net) {p : List Fu} {k : Str} {t : Int} (h : BP net L p k t) : p.Nodup := by
  induction h with
  | lit => exact List.nodup_nil
  | @go p u v t f h hf hj c ih =>
    refine List.nodup_cons.mpr ⟨fun hm => ?_, ih⟩
    obtain ⟨_, a, b, s, h2, h3, h4, h5⟩ := h.le hw f hm
    have pos := hw f hf
    have key : ∀ t', Comes net L v t' → t' ≤ t → False := fun t' h' hl => by
      have := c.uniq h'; omega
    have hv : v = a ∨ v = b := by
      rcases hj with ⟨e1, e2⟩ | ⟨e1, e2⟩ <;> rcases h2 with ⟨e3, e4⟩ | ⟨e3, e4⟩ <;> subst e1 e2 e3 e4 <;> simp
    rcases hv with rfl | rfl
    · exact key _ h3 (by omega)
    · exact key _ h4 h5
theorem BP.short (hw : PosW net) {p : List Fu} {k : Str} {t : Int} (h : BP net L p k t) : p.length ≤ net.length := nodup_le (h.nodup hw) fun f hf => (h.le hw f hf).1
/-- es is nowhere above fs -/
def Dom (es fs : List (Str × Int)) : Prop := ∀ k t, aget fs k = some t → ∃ t', aget es k = some t' ∧ t' ≤ t
theorem Dom.refl (es : List (Str × Int)) : Dom es es := fun k t h => ⟨t, h, Int.le_refl _⟩
theorem Dom.trans {a b c : List (Str × Int)} (h : Dom a b) (g : Dom b c) : Dom a c := fun k t e => by
  obtain ⟨t1, e1, l1⟩ := g k t e
  obtain ⟨t2, e2, l2⟩ := h k t1 e1
  exact ⟨t2, e2, by omega⟩
/-- found[v] made less by found[u] + n -/
def relax (es : List (Str × Int)) (u v : Str) (n : Int) : List (Str × Int) := match aget es u with
  | none => es
  | some t => match aget es v with
    | none => aput es v (t + n)
    | some b => if t + n < b then aput es v (t + n) else es
theorem relax_dom (es : List (Str × Int)) (u v : Str) (n : Int) : Dom (relax es u v n) es := by
  unfold relax
  cases hu : aget es u with
  | none => exact Dom.refl es
  | some t =>
    simp only
    cases hv : aget es v with
    | none =>
      intro k t' h
      refine ⟨t', ?_, Int.le_refl _⟩
      rw [aget_aput]
      by_cases e : k = v
      · subst e; rw [hv] at h; cases h
      · rw [if_neg e]; exact h
    | some b =>
      simp only
      by_cases c : t + n < b
      · rw [if_pos c]
        intro k t' h
        rw [aget_aput]
        by_cases e : k = v
        · subst e; rw [hv] at h; cases h; exact ⟨t + n, if_pos rfl, by omega⟩
        · rw [if_neg e]; exact ⟨t', h, Int.le_refl _⟩
      · rw [if_neg c]; exact Dom.refl es
theorem relax_get (es : List (Str × Int)) (u v : Str) (n t : Int) (h : aget es u = some t) : ∃ t', aget (relax es u v n) v = some t' ∧ t' ≤ t + n := by
  unfold relax
  rw [h]
  simp only
  cases hv : aget es v with
  | none => exact ⟨_, by rw [aget_aput, if_pos rfl], Int.le_refl _⟩
  | some b =>
    simp only
    by_cases c : t + n < b
    · rw [if_pos c]; exact ⟨_, by rw [aget_aput, if_pos rfl], Int.le_refl _⟩
    · rw [if_neg c]; exact ⟨b, hv, by omega⟩
/-- what is sound: each moment is one at which fire comes along some way -/
structure Snd (net : List Fu) (L : List (Str × Int)) (es : List (Str × Int)) : Prop where
  nd : (es.map (·.1)).Nodup
  so : ∀ k t, aget es k = some t → Fire net L k t
theorem Snd.relax {es : List (Str × Int)} (S : Snd net L es) {u v : Str} {f : Fu} (hf : f ∈ net) (hj : Joins f u v) : Snd net L (relax es u v f.c) := by
  unfold PyD.relax
  cases hu : aget es u with
  | none => exact S
  | some t =>
    have put : Snd net L (aput es v (t + f.c)) := ⟨aput_nodup S.nd _ _, fun k t' h => by
      rw [aget_aput] at h
      by_cases e : k = v
      · rw [if_pos e] at h; cases h; subst e; exact .go (S.so _ _ hu) hf hj
      · rw [if_neg e] at h; exact S.so _ _ h⟩
    simp only
    split
    · exact put
    · split
      · exact put
      · exact S
def relax2 (es : List (Str × Int)) (f : Fu) : List (Str × Int) := relax (relax es f.a f.b f.c) f.b f.a f.c
theorem relax2_dom (es : List (Str × Int)) (f : Fu) : Dom (relax2 es f) es := (relax_dom _ _ _ _).trans (relax_dom _ _ _ _)
theorem relax2_snd {es : List (Str × Int)} (S : Snd net L es) {f : Fu} (hf : f ∈ net) : Snd net L (relax2 es f) := (S.relax hf (.inl ⟨rfl, rfl⟩)).relax hf (.inr ⟨rfl, rfl⟩)
theorem relax2_get (es : List (Str × Int)) (f : Fu) {u v : Str} (hj : Joins f u v) {t : Int} (h : aget es u = some t) : ∃ t', aget (relax2 es f) v = some t' ∧ t' ≤ t + f.c := by
  rcases hj with ⟨e1, e2⟩ | ⟨e1, e2⟩
  · subst e1 e2
    obtain ⟨t1, h1, l1⟩ := relax_get es f.a f.b f.c t h
    obtain ⟨t2, h2, l2⟩ := relax_dom _ f.b f.a f.c _ _ h1
    exact ⟨t2, h2, by omega⟩
  · subst e1 e2
    obtain ⟨t1, h1, l1⟩ := relax_dom es f.a f.b f.c _ _ h
    obtain ⟨t2, h2, l2⟩ := relax_get _ f.b f.a f.c _ h1
    exact ⟨t2, h2, by omega⟩
def round1 (net : List Fu) (es : List (Str × Int)) : List (Str × Int) := net.foldl relax2 es
theorem round_dom : ∀ (fs : List Fu) (es : List (Str × Int)), Dom (fs.foldl relax2 es) es
  | [], es => Dom.refl es
  | f :: fs, es => (round_dom fs _).trans (relax2_dom es f)
theorem round_snd : ∀ (fs : List Fu) (es : List (Str × Int)), (∀ f ∈ fs, f ∈ net) → Snd net L es → Snd net L (fs.foldl relax2 es)
  | [], _, _, S => S
  | f :: fs, es, h, S => round_snd fs _ (fun g hg => h g (List.mem_cons_of_mem _ hg)) (relax2_snd S (h f List.mem_cons_self))
theorem round_get : ∀ (fs : List Fu) (es : List (Str × Int)) {f : Fu} (_ : f ∈ fs) {u v : Str} (_ : Joins f u v) {t : Int} (_ : aget es u = some t), ∃ t', aget (fs.foldl relax2 es) v = some t' ∧ t' ≤ t + f.c
  | g :: fs, es, f, hf, u, v, hj, t, h => by
    rcases List.mem_cons.mp hf with rfl | hf
    · obtain ⟨t1, h1, l1⟩ := relax2_get es f hj h
      obtain ⟨t2, h2, l2⟩ := round_dom fs _ _ _ h1
      exact ⟨t2, h2, by omega⟩
    · obtain ⟨t1, h1, l1⟩ := relax2_dom es g _ _ h
      obtain ⟨t2, h2, l2⟩ := round_get fs (relax2 es g) hf hj h1
      exact ⟨t2, h2, by omega⟩
def rounds (net : List Fu) (n : Nat) (es : List (Str × Int)) : List (Str × Int) := Nat.repeat (round1 net) n es
theorem rounds_succ (n : Nat) (es : List (Str × Int)) : rounds net (n + 1) es = round1 net (rounds net n es) := rfl
theorem rounds_snd (n : Nat) {es : List (Str × Int)} (S : Snd net L es) : Snd net L (rounds net n es) := by
  induction n with
  | zero => exact S
  | succ n ih => rw [rounds_succ]; exact round_snd net _ (fun _ h => h) ih
theorem rounds_dom (n : Nat) (es : List (Str × Int)) : Dom (rounds net n es) es := by
  induction n with
  | zero => exact Dom.refl es
  | succ n ih => rw [rounds_succ]; exact (round_dom net _).trans ih
theorem rounds_bp {es : List (Str × Int)} (hl : ∀ k t, (k, t) ∈ L → ∃ t', aget es k = some t' ∧ t' ≤ t) {p : List Fu} {k : Str} {t : Int} (h : BP net L p k t) : ∀ n, p.length ≤ n → ∃ t', aget (rounds net n es) k = some t' ∧ t' ≤ t := by
  induction h with
  | lit h c =>
    intro n _
    obtain ⟨t1, h1, l1⟩ := hl _ _ h
    obtain ⟨t2, h2, l2⟩ := rounds_dom (net := net) n es _ _ h1
    exact ⟨t2, h2, by omega⟩
  | @go p u v t f h hf hj c ih =>
    intro n hn
    cases n with
    | zero => simp at hn
    | succ n =>
      obtain ⟨t1, h1, l1⟩ := ih n (by simpa using hn)
      obtain ⟨t2, h2, l2⟩ := round_get net (rounds net n es) hf hj h1
      exact ⟨t2, h2, by omega⟩
/-- so many rounds as there are fuses are enough -/
theorem rounds_burnt (hw : PosW net) (h0 : ∀ p ∈ L, 0 ≤ p.2) {n : Nat} (hn : net.length ≤ n) (nd : (L.map (·.1)).Nodup) : Burnt net L (rounds net n L) := by
  have S : Snd net L (rounds net n L) := rounds_snd n ⟨nd, fun k t h => .lit (aget_mem h)⟩
  have low : ∀ k t, Comes net L k t → aget (rounds net n L) k = some t := by
    intro k t c
    obtain ⟨p, hp⟩ := bp_of c.1 c
    obtain ⟨t1, h1, l1⟩ := rounds_bp (es := L) (fun k t h => ⟨t, aget_of_mem nd h, Int.le_refl _⟩) hp n (Nat.le_trans (hp.short hw) hn)
    rw [h1, Int.le_antisymm l1 (c.2 _ (S.so _ _ h1))]
  refine ⟨S.nd, fun k t => ⟨fun h => ?_, low k t⟩⟩
  obtain ⟨t0, c⟩ := (S.so _ _ h).least hw h0
  have := low k t0 c
  rw [h] at this; cases this; exact c
end
end PyD
namespace PyD
open PySem PySem.Spec L2 PySem.W
open PyProof.Rows hiding St
section
variable {net : List Fu} {L best done : List (Str × Int)}
def cand (net : List Fu) (L : List (Str × Int)) : List Str := L.map (·.1) ++ net.flatMap fun f => [f.a, f.b]
structure DJ (net : List Fu) (L best done : List (Str × Int)) : Prop where
  s : Snd net L best
  ndd : (done.map (·.1)).Nodup
  lit : ∀ k t, (k, t) ∈ L → ∃ t', aget best k = some t' ∧ t' ≤ t
  sub : ∀ k t, aget done k = some t → aget best k = some t
  cl : ∀ u t f v, aget done u = some t → f ∈ net → Joins f u v → ∃ t', aget best v = some t' ∧ t' ≤ t + f.c
  mono : ∀ u t v t', aget done u = some t → aget best v = some t' → aget done v = none → t ≤ t'
  cd : ∀ k, k ∈ best.map (·.1) → k ∈ cand net L
structure DIn (net : List Fu) (L : List (Str × Int)) (here : Str) (T : Int) (best done : List (Str × Int)) (F : List Fu) : Prop where
  s : Snd net L best
  ndd : (done.map (·.1)).Nodup
  lit : ∀ k t, (k, t) ∈ L → ∃ t', aget best k = some t' ∧ t' ≤ t
  sub : ∀ k t, aget done k = some t → aget best k = some t
  cd : ∀ k, k ∈ best.map (·.1) → k ∈ cand net L
  hr : aget done here = some T
  dle : ∀ u t, aget done u = some t → t ≤ T
  bge : ∀ v t', aget best v = some t' → aget done v = none → T ≤ t'
  clo : ∀ u t f v, aget done u = some t → u ≠ here → f ∈ net → Joins f u v → ∃ t', aget best v = some t' ∧ t' ≤ t + f.c
  clh : ∀ f ∈ F, ∀ v, Joins f here v → ∃ t', aget best v = some t' ∧ t' ≤ T + f.c
theorem DJ.start (nd : (L.map (·.1)).Nodup) : DJ net L L [] where
  s := ⟨nd, fun k t h => .lit (aget_mem h)⟩
  ndd := List.nodup_nil
  lit := fun k t h => ⟨t, aget_of_mem nd h, Int.le_refl _⟩
  sub := fun k t h => by cases h
  cl := fun u t f v h => by cases h
  mono := fun u t v t' h => by cases h
  cd := fun k h => List.mem_append_left _ h
theorem keys_len {es fs : List (Str × Int)} (nd : (es.map (·.1)).Nodup) (h : ∀ k t, aget es k = some t → (aget fs k).isSome = true) : es.length ≤ fs.length := by
  have := nodup_le (l := es.map (·.1)) (m := fs.map (·.1)) nd fun x hx => by
    have := aget_key.mpr hx
    obtain ⟨t, ht⟩ := Option.isSome_iff_exists.mp this
    exact aget_key.mp (h _ _ ht)
  simpa using this
theorem DJ.le (J : DJ net L best done) : done.length ≤ best.length := keys_len J.ndd fun k t h => by rw [J.sub k t h]; rfl
theorem Snd.cand_le {es : List (Str × Int)} (nd : (es.map (·.1)).Nodup) (cd : ∀ k, k ∈ es.map (·.1) → k ∈ cand net L) : es.length ≤ (cand net L).length := by
  have := nodup_le (l := es.map (·.1)) (m := cand net L) nd cd
  simpa using this
theorem DJ.blen (J : DJ net L best done) : best.length ≤ (cand net L).length := Snd.cand_le J.s.nd J.cd
theorem nodup_all {l m : List Str} (hl : l.Nodup) (hs : ∀ x ∈ l, x ∈ m) (hm : m.Nodup) (hlen : m.length ≤ l.length) : ∀ x ∈ m, x ∈ l := by
  intro x hx
  by_cases h : x ∈ l
  · exact h
  · have := nodup_le (l := x :: l) (m := m) (List.nodup_cons.mpr ⟨h, hl⟩) fun y hy => by
      rcases List.mem_cons.mp hy with rfl | hy
      · exact hx
      · exact hs y hy
    rw [List.length_cons] at this; omega
theorem DJ.fin (J : DJ net L best done) (h : ¬ done.length < best.length) : Burnt net L done := by
  have all : ∀ k, (aget best k).isSome = true → (aget done k).isSome = true := by
    intro k hk
    refine aget_key.mpr (nodup_all J.ndd (fun x hx => ?_) J.s.nd (by simp; omega) k (aget_key.mp hk))
    have := aget_key.mpr hx
    obtain ⟨t, ht⟩ := Option.isSome_iff_exists.mp this
    exact aget_key.mp (by rw [J.sub _ _ ht]; rfl)
  have eq : ∀ k, aget done k = aget best k := by
    intro k
    cases hd : aget done k with
    | some t => exact (J.sub k t hd).symm
    | none =>
      cases hb : aget best k with
      | none => rfl
      | some t => have := all k (by rw [hb]; rfl); rw [hd] at this; cases this
  refine burnt_of J.ndd (fun k t h => J.s.so k t (J.sub k t h)) (fun k t h => ?_) (fun u t f v h hf hj => ?_)
  · rw [eq]; exact J.lit k t h
  · rw [eq]; exact J.cl u t f v h hf hj
theorem DJ.take (J : DJ net L best done) {here : Str} {T : Int} (hb : aget best here = some T) (hd : aget done here = none) (hmin : ∀ v t', aget best v = some t' → aget done v = none → T ≤ t') :
    DIn net L here T best (aput done here T) [] where
  s := J.s
  ndd := aput_nodup J.ndd _ _
  lit := J.lit
  sub := fun k t h => by
    rw [aget_aput] at h
    by_cases e : k = here
    · rw [if_pos e] at h; cases h; rw [e]; exact hb
    · rw [if_neg e] at h; exact J.sub k t h
  cd := J.cd
  hr := by rw [aget_aput, if_pos rfl]
  dle := fun u t h => by
    rw [aget_aput] at h
    by_cases e : u = here
    · rw [if_pos e] at h; cases h; exact Int.le_refl _
    · rw [if_neg e] at h; exact J.mono u t here T h hb hd
  bge := fun v t' h1 h2 => by
    rw [aget_aput] at h2
    by_cases e : v = here
    · rw [if_pos e] at h2; cases h2
    · rw [if_neg e] at h2; exact hmin v t' h1 h2
  clo := fun u t f v h n hf hj => by
    rw [aget_aput, if_neg n] at h
    exact J.cl u t f v h hf hj
  clh := fun f hf => by cases hf
theorem DJ.grow (J : DJ net L best done) {here : Str} {T : Int} (hd : aget done here = none) : (aput done here T).length = done.length + 1 := by
  rw [aput_len, hd]; rfl
theorem DIn.step {here : Str} {T : Int} {F : List Fu} (hw : PosW net) (I : DIn net L here T best done F) {f : Fu} {there : Str} (hf : f ∈ net) (hj : Joins f here there) (ht : ∀ v, Joins f here v → v = there ∨ v = here) :
    DIn net L here T (relax best here there f.c) done (F ++ [f]) := by
  have pos := hw f hf
  have hb : aget best here = some T := I.sub _ _ I.hr
  have dm := relax_dom best here there f.c
  have keep : ∀ k t, aget best k = some t → k ≠ there → aget (relax best here there f.c) k = some t := by
    intro k t h n
    unfold relax
    rw [hb]
    simp only
    split
    · rw [aget_aput, if_neg n]; exact h
    · split
      · rw [aget_aput, if_neg n]; exact h
      · exact h
  have old : ∀ k t, aget (relax best here there f.c) k = some t → aget best k = some t ∨ (k = there ∧ t = T + f.c) := by
    intro k t h
    unfold relax at h
    rw [hb] at h
    simp only at h
    split at h
    · rw [aget_aput] at h
      by_cases e : k = there
      · rw [if_pos e] at h; cases h; exact .inr ⟨e, rfl⟩
      · rw [if_neg e] at h; exact .inl h
    · split at h
      · rw [aget_aput] at h
        by_cases e : k = there
        · rw [if_pos e] at h; cases h; exact .inr ⟨e, rfl⟩
        · rw [if_neg e] at h; exact .inl h
      · exact .inl h
  refine ⟨I.s.relax hf hj, I.ndd, fun k t h => ?_, fun k t h => ?_, fun k hk => ?_, I.hr, I.dle, fun v t' h1 h2 => ?_, fun u t g v h n hg hj' => ?_, fun g hg v hv => ?_⟩
  · obtain ⟨t1, h1, l1⟩ := I.lit k t h
    obtain ⟨t2, h2, l2⟩ := dm _ _ h1
    exact ⟨t2, h2, by omega⟩
  · have hs := I.sub k t h
    by_cases e : k = there
    · subst e
      have := I.dle _ _ h
      unfold relax
      rw [hb, hs]
      simp only
      rw [if_neg (by omega)]; exact hs
    · exact keep k t hs e
  · have hk' := aget_key.mpr hk
    obtain ⟨t, ht'⟩ := Option.isSome_iff_exists.mp hk'
    rcases old k t ht' with h | ⟨rfl, _⟩
    · exact I.cd k (aget_key.mp (by rw [h]; rfl))
    · refine List.mem_append_right _ (List.mem_flatMap.mpr ⟨f, hf, ?_⟩)
      rcases hj with ⟨_, e⟩ | ⟨_, e⟩ <;> simp [e]
  · rcases old v t' h1 with h | ⟨rfl, rfl⟩
    · exact I.bge v t' h h2
    · omega
  · obtain ⟨t1, h1, l1⟩ := I.clo u t g v h n hg hj'
    obtain ⟨t2, h2, l2⟩ := dm _ _ h1
    exact ⟨t2, h2, by omega⟩
  · rcases List.mem_append.mp hg with hg | hg
    · obtain ⟨t1, h1, l1⟩ := I.clh g hg v hv
      obtain ⟨t2, h2, l2⟩ := dm _ _ h1
      exact ⟨t2, h2, by omega⟩
    · rw [List.mem_singleton] at hg
      subst hg
      rcases ht v hv with rfl | rfl
      · exact relax_get best _ _ _ _ hb
      · obtain ⟨t2, h2, l2⟩ := dm _ _ hb
        exact ⟨t2, h2, by omega⟩
theorem DIn.fin {here : Str} {T : Int} {F : List Fu} (I : DIn net L here T best done F) (hF : ∀ f ∈ net, (here = f.a ∨ here = f.b) → f ∈ F) : DJ net L best done where
  s := I.s
  ndd := I.ndd
  lit := I.lit
  sub := I.sub
  cl := fun u t f v h hf hj => by
    by_cases e : u = here
    · subst e
      rw [I.hr] at h; cases h
      refine I.clh f (hF f hf ?_) v hj
      rcases hj with ⟨h1, _⟩ | ⟨h1, _⟩
      · exact .inl h1.symm
      · exact .inr h1.symm
    · exact I.clo u t f v h e hf hj
  mono := fun u t v t' h1 h2 h3 => Int.le_trans (I.dle _ _ h1) (I.bge _ _ h2 h3)
  cd := I.cd
end
theorem cand_len (net : List Fu) (L : List (Str × Int)) : (cand net L).length = L.length + 2 * net.length := by
  unfold cand
  rw [List.length_append, List.length_map]
  congr 1
  induction net with
  | nil => rfl
  | cons f fs ih => rw [List.flatMap_cons, List.length_append, ih]; simp only [List.length_cons, List.length_nil]; omega
def liD (p : Str × Int) : D := .tuple [.str p.1, .int p.2]
abbrev netD (net : List Fu) : D := .tuple (net.map fuD)
abbrev lisD (L : List (Str × Int)) : D := .tuple (L.map liD)
structure NetOk (net : List Fu) : Prop where
  pos : PosW net
  len : net.length ≤ 1000
structure LiOk (L : List (Str × Int)) : Prop where
  nd : (L.map (·.1)).Nodup
  nn : ∀ p ∈ L, 0 ≤ p.2
  len : L.length ≤ 1000
def othK (f : Fu) (k : Str) : Str := if f.a = k then f.b else f.a
def atK (net : List Fu) (k : Str) : List Fu := net.filter fun f => decide (k = f.a ∨ k = f.b)
def q_fuses_at : MF := fun ds Q => ∃ (net : List Fu) (k : Str), ds = [netD net, .str k] ∧ net.length ≤ 1000 ∧ Q (.list ((atK net k).map fuD))
def q_beyond : MF := fun ds Q => ∃ (f : Fu) (k : Str), ds = [fuD f, .str k] ∧ Q (.str (othK f k))
def q_burn_times : MF := fun ds Q => ∃ (net : List Fu) (L : List (Str × Int)), ds = [netD net, lisD L] ∧ NetOk net ∧ LiOk L ∧ ∀ es, Burnt net L es → es.length ≤ 10000 → Q (dS .int es)
theorem othK_joins {f : Fu} {k : Str} (h : k = f.a ∨ k = f.b) : Joins f k (othK f k) := by
  unfold othK
  by_cases e : f.a = k
  · rw [if_pos e]; exact .inl ⟨e, rfl⟩
  · rw [if_neg e]; exact .inr ⟨(h.resolve_left fun z => e z.symm).symm, rfl⟩
theorem othK_only {f : Fu} {k v : Str} (h : Joins f k v) : v = othK f k ∨ v = k := by
  unfold othK
  rcases h with ⟨h1, h2⟩ | ⟨h1, h2⟩
  · rw [if_pos h1]; exact .inl h2.symm
  · by_cases e : f.a = k
    · exact .inr (h2.symm.trans e)
    · rw [if_neg e]; exact .inl h2.symm
end PyD
namespace PyD
open PySem PySem.Spec L2 PySem.W
open PyProof.Rows hiding St
theorem pIx_t (xs : List D) (i : Int) (Q : D → Prop) : pIx (.tuple xs) (.int i) Q ↔ ∃ d, atD xs i = some d ∧ Q d := Iff.rfl
theorem pIx_l (xs : List D) (i : Int) (Q : D → Prop) : pIx (.list xs) (.int i) Q ↔ ∃ d, atD xs i = some d ∧ Q d := Iff.rfl
theorem pIx_p0t (x : D) (y : D) (Q : D → Prop) : pIx (.tuple [x, y]) (.int 0) Q ↔ Q x := pIx_p0 x y Q
theorem pLen_t (xs : List D) (Q : D → Prop) : pLen [.tuple xs] Q ↔ Q (.int xs.length) := Iff.rfl
theorem pLen_l (xs : List D) (Q : D → Prop) : pLen [.list xs] Q ↔ Q (.int xs.length) := Iff.rfl
theorem pLen_s (x : Str) (Q : D → Prop) : pLen [.str x] Q ↔ x.length ≤ sizeLine ∧ Q (.int x.length) := Iff.rfl
theorem seqD_l (xs : List D) (Q : List D → Prop) : seqD (.list xs) Q = (xs.length ≤ sizeLine → Q xs) := rfl
theorem seqD_t (xs : List D) (Q : List D → Prop) : seqD (.tuple xs) Q = (xs.length ≤ sizeLine → Q xs) := rfl
theorem seqD_s (x : Str) (Q : List D → Prop) : seqD (.str x) Q = Q (signs x) := rfl
theorem liD_eq (p : Str × Int) : liD p = .tuple [.str p.1, .int p.2] := rfl
theorem itemsS_t (xs : List D) : itemsS (.tuple xs) = some xs := rfl
theorem itemsS_l (xs : List D) : itemsS (.list xs) = some xs := rfl
theorem cut3_2 (x y z : D) : cutD [x, y, z] none (some 2) = [x, y] := rfl
theorem fuD_eq (f : Fu) : .tuple [.str f.a, .str f.b, .int f.c] = fuD f := rfl
/-- fuse[:2] -/
theorem slD_fu (f : Fu) (Q : D → Prop) : slD (fuD f) none (some 2) Q = Q (.tuple [.str f.a, .str f.b]) := rfl
theorem slD_t (xs : List D) (a b : Option Int) (Q : D → Prop) : slD (.tuple xs) a b Q = Q (.tuple (cutD xs a b)) := rfl
theorem slD_l (xs : List D) (a b : Option Int) (Q : D → Prop) : slD (.list xs) a b Q = Q (.list (cutD xs a b)) := rfl
theorem slD_s (x : Str) (a b : Option Int) (Q : D → Prop) : slD (.str x) a b Q = (x.length ≤ sizeLine ∧ Q (.str (cutS x a b))) := rfl
theorem truD_i (i : Int) (Q : Bool → Prop) : truD (.int i) Q = Q (i != 0) := rfl
theorem truD_b (b : Bool) (Q : Bool → Prop) : truD (.bool b) Q = Q b := rfl
theorem truD_n (Q : Bool → Prop) : truD .none Q = Q false := rfl
theorem truD_l (xs : List D) (Q : Bool → Prop) : truD (.list xs) Q = Q (!xs.isEmpty) := rfl
theorem truD_t (xs : List D) (Q : Bool → Prop) : truD (.tuple xs) Q = Q (!xs.isEmpty) := rfl
theorem revDt_l (xs : List D) (Q : D → Prop) : revDt (.list xs) Q = Q (.list xs.reverse) := rfl
theorem revDt_t (xs : List D) (Q : D → Prop) : revDt (.tuple xs) Q = Q (.tuple xs.reverse) := rfl
theorem pAddE_i (i j : Int) (Q : D → Prop) : pAddE (.int i) (.int j) Q ↔ Q (.int (i + j)) := Iff.rfl
theorem pAddE_s (i j : Str) (Q : D → Prop) : pAddE (.str i) (.str j) Q ↔ i.length + j.length ≤ sizeLine ∧ Q (.str (i ++ j)) := Iff.rfl
theorem pAddE_l (i j : List D) (Q : D → Prop) : pAddE (.list i) (.list j) Q ↔ i.length + j.length ≤ sizeLine ∧ Q (.list (i ++ j)) := Iff.rfl
theorem pAddE_t (i j : List D) (Q : D → Prop) : pAddE (.tuple i) (.tuple j) Q ↔ i.length + j.length ≤ sizeLine ∧ Q (.tuple (i ++ j)) := Iff.rfl
theorem pAdd_i (i j : Int) (Q : D → Prop) : pAdd (.int i) (.int j) Q ↔ Q (.int (i + j)) := Iff.rfl
theorem pAddL_l (i j : List D) (Q : D → Prop) : pAddL (.list i) (.list j) Q ↔ i.length + j.length ≤ sizeLine ∧ Q (.list (i ++ j)) := Iff.rfl
theorem pSub_i (i j : Int) (Q : D → Prop) : pSub (.int i) (.int j) Q ↔ Q (.int (i - j)) := Iff.rfl
theorem pMod_i (i j : Int) (Q : D → Prop) : pMod (.int i) (.int j) Q ↔ 0 < j ∧ Q (.int (i % j)) := Iff.rfl
theorem pFdiv_i (i j : Int) (Q : D → Prop) : pFdiv (.int i) (.int j) Q ↔ (0 < j ∧ j < 1073741824) ∧ Q (.int (i / j)) := Iff.rfl
theorem pNeg_i (i : Int) (Q : D → Prop) : pNeg (.int i) Q ↔ Q (.int (-i)) := Iff.rfl
theorem pTupOf_l (xs : List D) (Q : D → Prop) : pTupOf [.list xs] Q ↔ Q (.tuple xs) := Iff.rfl
theorem pListOf_l (xs : List D) (Q : D → Prop) : pListOf [.list xs] Q ↔ Q (.list xs) := Iff.rfl
theorem pListOf_t (xs : List D) (Q : D → Prop) : pListOf [.tuple xs] Q ↔ Q (.list xs) := Iff.rfl
theorem pMin_i (i j : Int) (Q : D → Prop) : pMin [.int i, .int j] Q ↔ Q (.int (if j < i then j else i)) := Iff.rfl
theorem pMax_i (i j : Int) (Q : D → Prop) : pMax [.int i, .int j] Q ↔ Q (.int (if i < j then j else i)) := Iff.rfl
theorem pIs_n (d : D) (Q : D → Prop) : pIs d .none Q ↔ Q (.bool (isD d .none)) := Iff.rfl
theorem pIs_b (d : D) (b : Bool) (Q : D → Prop) : pIs d (.bool b) Q ↔ Q (.bool (isD d (.bool b))) := Iff.rfl
theorem pIsNot_n (d : D) (Q : D → Prop) : pIsNot d .none Q ↔ Q (.bool (!isD d .none)) := Iff.rfl
theorem pIsNot_b (d : D) (b : Bool) (Q : D → Prop) : pIsNot d (.bool b) Q ↔ Q (.bool (!isD d (.bool b))) := Iff.rfl
theorem pInt1_i (i : Int) (Q : D → Prop) : pInt1 [.int i] Q ↔ Q (.int i) := Iff.rfl
theorem pAbs_i (i : Int) (Q : D → Prop) : pAbs [.int i] Q ↔ Q (.int (if i < 0 then -i else i)) := Iff.rfl
theorem qAppend_l (xs : List D) (d : D) (Q : D → D → Prop) : qAppend (.list xs) [d] Q ↔ xs.length < sizeLine ∧ Q (.list (xs ++ [d])) .none := Iff.rfl
theorem qExtend_l (xs ys : List D) (Q : D → D → Prop) : qExtend (.list xs) [.list ys] Q ↔ xs.length + ys.length ≤ sizeLine ∧ Q (.list (xs ++ ys)) .none := Iff.rfl
theorem qExtend_t (xs ys : List D) (Q : D → D → Prop) : qExtend (.list xs) [.tuple ys] Q ↔ xs.length + ys.length ≤ sizeLine ∧ Q (.list (xs ++ ys)) .none := Iff.rfl
theorem pSum_i (xs : List Int) (Q : D → Prop) : pSum [.list (xs.map .int)] Q ↔ Q (.int xs.sum) := ⟨fun ⟨ns, e, q⟩ => by
  have : ns = xs := by
    have h : ∀ {a b : List Int}, a.map PyData.int = b.map PyData.int → a = b := fun {a b} => (List.map_inj_right fun x y h => by injection h).mp
    exact h e.symm
  rw [← this]; exact q, fun q => ⟨xs, rfl, q⟩⟩
theorem pAny_b (xs : List Bool) (Q : D → Prop) : pAny [.list (xs.map .bool)] Q ↔ Q (.bool (xs.any id)) := ⟨fun ⟨ns, e, q⟩ => by
  have : ns = xs := by
    have h : ∀ {a b : List Bool}, a.map PyData.bool = b.map PyData.bool → a = b := fun {a b} => (List.map_inj_right fun x y h => by injection h).mp
    exact h e.symm
  rw [← this]; exact q, fun q => ⟨xs, rfl, q⟩⟩
theorem pAll_b (xs : List Bool) (Q : D → Prop) : pAll [.list (xs.map .bool)] Q ↔ Q (.bool (xs.all id)) := ⟨fun ⟨ns, e, q⟩ => by
  have : ns = xs := by
    have h : ∀ {a b : List Bool}, a.map PyData.bool = b.map PyData.bool → a = b := fun {a b} => (List.map_inj_right fun x y h => by injection h).mp
    exact h e.symm
  rw [← this]; exact q, fun q => ⟨xs, rfl, q⟩⟩
theorem pAny_f {α : Type} (f : α → Bool) (xs : List α) (Q : D → Prop) : pAny [.list (xs.map fun x => .bool (f x))] Q ↔ Q (.bool (xs.any f)) := by
  have := pAny_b (xs.map f) Q
  rw [List.map_map] at this
  rw [show (xs.map fun x => PyData.bool (f x)) = xs.map (PyData.bool ∘ f) from rfl, this, List.any_map]; rfl
theorem pAll_f {α : Type} (f : α → Bool) (xs : List α) (Q : D → Prop) : pAll [.list (xs.map fun x => .bool (f x))] Q ↔ Q (.bool (xs.all f)) := by
  have := pAll_b (xs.map f) Q
  rw [List.map_map] at this
  rw [show (xs.map fun x => PyData.bool (f x)) = xs.map (PyData.bool ∘ f) from rfl, this, List.all_map]; rfl
theorem pIn_ss (x y : Str) (Q : D → Prop) : pIn (.str x) (.str y) Q ↔ Q (.bool (inS x y)) := Iff.rfl
theorem pNotIn_ss (x y : Str) (Q : D → Prop) : pNotIn (.str x) (.str y) Q ↔ Q (.bool (!inS x y)) := Iff.rfl
theorem pIn_s3 (x a b c : Str) (Q : D → Prop) : pIn (.str x) (.tuple [.str a, .str b, .str c]) Q ↔ Q (.bool (decide (x ∈ [a, b, c]))) := pIn_st x [a, b, c] Q
theorem pIx_s (x : Str) (i : Int) (Q : D → Prop) : pIx (.str x) (.int i) Q ↔ ∃ c, x.length ≤ sizeLine ∧ atD x.cps.toList i = some c ∧ Q (.str ⟨#[c]⟩) := Iff.rfl
theorem filter_succ {α : Type} (p : α → Bool) {xs : List α} {i : Nat} {x : α} (h : xs[i]? = some x) : (xs.take (i + 1)).filter p = (xs.take i).filter p ++ (if p x = true then [x] else []) := by
  rw [List.take_add_one, h, List.filter_append]
  congr 1
  by_cases c : p x = true
  · simp [c]
  · simp [c]
theorem filter_take_le {α : Type} (p : α → Bool) (xs : List α) (i : Nat) : ((xs.take i).filter p).length ≤ xs.length := Nat.le_trans (List.length_filter_le _ _) (by rw [List.length_take]; omega)
section
variable {α : Type} {m : MA} {g : MG} {b : MS} {ρ : En} {M : MEnds} {vs : List Nat} {t : MT} {e : ME} {Q : D → Prop}
theorem sForD_go (xs : List α) (c : α → D) (P : Nat → En → Prop) (h0 : P 0 ρ)
    (hs : ∀ (i : Nat) (x : α) (ρ' : En), xs[i]? = some x → P i ρ' → g (c x) ρ' fun ρ1 => b { M with nx := P (i + 1), ct := P (i + 1), bk := M.nx } ρ1) (hd : ∀ ρ', P xs.length ρ' → M.nx ρ') : sForD (xs.map c) g b M ρ :=
  sFor_go (m := fun _ Q => Q (xs.map c)) xs c P (fun R hR => hR) h0 hs hd
theorem sForD_rng (lo hi : Int) (P : Nat → En → Prop) (h0 : P 0 ρ)
    (hs : ∀ (i : Nat) (ρ' : En), lo + i < hi → P i ρ' → g (.int (lo + i)) ρ' fun ρ1 => b { M with nx := P (i + 1), ct := P (i + 1), bk := M.nx } ρ1) (hd : ∀ ρ', P (hi - lo).toNat ρ' → M.nx ρ') : sForD (rngD lo hi) g b M ρ :=
  sFor_rng (m := fun _ Q => Q (rngD lo hi)) lo hi P (fun R hR => hR) h0 hs hd
theorem mLcD_go (xs : List α) (c : α → D) (F : α → Option D) (hz : xs.length ≤ sizeLine)
    (ht : ∀ x, x ∈ xs → ∀ (P : D → Prop) (N : Prop), (∀ y, F x = some y → P y) → (F x = none → N) → g (c x) (wipeD ρ vs) fun ρ1 => t ρ1 fun b => if b = true then e ρ1 P else N)
    (hq : Q (.list (xs.filterMap F))) : mLcD (xs.map c) vs g t e ρ Q :=
  mLc_go (m := fun _ Q => Q (xs.map c)) xs c F (fun R hR => hR) hz ht hq
theorem mLcD_map (xs : List α) (c F : α → D) (hz : xs.length ≤ sizeLine)
    (ht : ∀ x, x ∈ xs → ∀ (P : D → Prop) (N : Prop), P (F x) → g (c x) (wipeD ρ vs) fun ρ1 => t ρ1 fun b => if b = true then e ρ1 P else N)
    (hq : Q (.list (xs.map F))) : mLcD (xs.map c) vs g t e ρ Q :=
  mLc_map (m := fun _ Q => Q (xs.map c)) xs c F (fun R hR => hR) hz ht hq
theorem mLcD_filter (xs : List α) (c F : α → D) (p : α → Bool) (hz : xs.length ≤ sizeLine)
    (ht : ∀ x, x ∈ xs → ∀ (P : D → Prop) (N : Prop), (p x = true → P (F x)) → (p x = false → N) → g (c x) (wipeD ρ vs) fun ρ1 => t ρ1 fun b => if b = true then e ρ1 P else N)
    (hq : Q (.list ((xs.filter p).map F))) : mLcD (xs.map c) vs g t e ρ Q :=
  mLc_filter (m := fun _ Q => Q (xs.map c)) xs c F p (fun R hR => hR) hz ht hq
end
theorem gT_t (g : MGs) (ds : List D) (ρ : En) (Q : En → Prop) : gT g (.tuple ds) ρ Q = g ds ρ Q := rfl
theorem pLen_net (net : List Fu) (Q : D → Prop) : pLen [netD net] Q ↔ Q (.int net.length) := by show Q (.int ((net.map fuD).length : Nat)) ↔ _; rw [List.length_map]
theorem pLen_map {α : Type} (c : α → D) (xs : List α) (Q : D → Prop) : pLen [.list (xs.map c)] Q ↔ Q (.int xs.length) := by show Q (.int ((xs.map c).length : Nat)) ↔ _; rw [List.length_map]
theorem pLen_mapT {α : Type} (c : α → D) (xs : List α) (Q : D → Prop) : pLen [.tuple (xs.map c)] Q ↔ Q (.int xs.length) := by show Q (.int ((xs.map c).length : Nat)) ↔ _; rw [List.length_map]
theorem dict_lis (L : List (Str × Int)) (nd : (L.map (·.1)).Nodup) {Q : D → Prop} (h : Q (dS .int L)) : pDictP [lisD L] Q := by
  have := pDictP_t PyData.int L (Q := Q)
  rw [amerge_id nd] at this
  exact this h
theorem IsMin.fst {β : Type} [DecidableEq β] [DatumOrd β] {m : Int × β} {xs : List (Int × β)} (h : IsMin m xs) : ∀ y ∈ xs, m.1 ≤ y.1 := fun y hy => by
  have := h.2 y hy
  rw [show DatumOrd.lt y m = if y.1 = m.1 then DatumOrd.lt y.2 m.2 else decide (y.1 < m.1) from rfl] at this
  by_cases e : y.1 = m.1
  · omega
  · rw [if_neg e] at this
    have := of_decide_eq_false this
    omega
end PyD
namespace PyD
open PySem PySem.Spec L2 PySem.W
open PyProof.Rows hiding St
section
variable {α β : Type} {vs vs1 : List Nat} {m m1 : MA} {g g1 : MG} {t1 : MT} {e : ME} {ρ : En} {Q : D → Prop}
theorem mLc2_go (xs : List α) (c : α → D) (ys : α → List β) (c1 : α → β → D) (F : α → β → Option D) (ρ1 : α → En) (hm : ∀ R : List D → Prop, R (xs.map c) → m ρ R)
    (hz : (xs.flatMap fun x => (ys x).filterMap (F x)).length ≤ sizeLine)
    (hg : ∀ x, x ∈ xs → ∀ K : En → Prop, K (ρ1 x) → g (c x) (wipeD ρ vs) K)
    (hm1 : ∀ x, x ∈ xs → ∀ R : List D → Prop, R ((ys x).map (c1 x)) → m1 (ρ1 x) R)
    (ht : ∀ x, x ∈ xs → ∀ y, y ∈ ys x → ∀ (P : D → Prop) (N : Prop), (∀ d, F x y = some d → P d) → (F x y = none → N) → g1 (c1 x y) (wipeD (ρ1 x) vs1) fun ρ2 => t1 ρ2 fun b => if b = true then e ρ2 P else N)
    (hq : Q (.list (xs.flatMap fun x => (ys x).filterMap (F x)))) : mLc2 vs m g tTrue vs1 m1 g1 t1 e ρ Q := by
  refine hm _ ⟨fun i acc => i ≤ xs.length ∧ acc = (xs.take i).flatMap fun x => (ys x).filterMap (F x), ⟨Nat.zero_le _, rfl⟩, fun i d acc hd ⟨hi, ha⟩ => ?_, fun acc ⟨_, ha⟩ => by rw [ha, List.length_map, List.take_length]; exact hq⟩
  rw [List.getElem?_map, Option.map_eq_some_iff] at hd
  obtain ⟨x, hx, rfl⟩ := hd
  have hxm := List.mem_of_getElem? hx
  obtain ⟨hlt, _⟩ := List.getElem?_eq_some_iff.mp hx
  have hs : (xs.take (i + 1)).flatMap (fun x => (ys x).filterMap (F x)) = (xs.take i).flatMap (fun x => (ys x).filterMap (F x)) ++ (ys x).filterMap (F x) := by
    rw [List.take_add_one, hx, List.flatMap_append]; simp
  have hall : ((xs.take (i + 1)).flatMap fun x => (ys x).filterMap (F x)).length ≤ sizeLine := by
    refine Nat.le_trans ?_ hz
    conv => rhs; rw [← List.take_append_drop (i + 1) xs, List.flatMap_append, List.length_append]
    omega
  refine hg x hxm _ ?_
  simp only [tTrue, if_true]
  refine hm1 x hxm _ ⟨fun j acc1 => j ≤ (ys x).length ∧ acc1 = acc ++ ((ys x).take j).filterMap (F x), ⟨Nat.zero_le _, by simp⟩, fun j d acc1 hd ⟨hj, ha1⟩ => ?_, fun acc1 ⟨_, ha1⟩ => ⟨hlt, by rw [ha1, List.length_map, List.take_length, hs, ha]⟩⟩
  rw [List.getElem?_map, Option.map_eq_some_iff] at hd
  obtain ⟨y, hy, rfl⟩ := hd
  obtain ⟨hjl, _⟩ := List.getElem?_eq_some_iff.mp hy
  have hs1 : ((ys x).take (j + 1)).filterMap (F x) = ((ys x).take j).filterMap (F x) ++ (F x y).toList := by
    rw [List.take_add_one, hy, List.filterMap_append]
    cases h : F x y <;> simp [h]
  refine ht x hxm y (List.mem_of_getElem? hy) _ _ (fun d hd => ⟨?_, hjl, ?_⟩) (fun hn => ⟨hjl, ?_⟩)
  · have l1 : (acc ++ ((ys x).take (j + 1)).filterMap (F x)).length ≤ sizeLine := by
      refine Nat.le_trans ?_ hall
      rw [hs, ← ha, List.length_append, List.length_append]
      have : (((ys x).take (j + 1)).filterMap (F x)).length ≤ ((ys x).filterMap (F x)).length := ((List.take_sublist _ _).filterMap _).length_le
      omega
    rw [hs1, hd] at l1
    rw [ha1]
    simp at l1 ⊢; omega
  · rw [hs1, hd, ha1]; simp
  · rw [hs1, hn, ha1]; simp
end
section
variable {α : Type}
theorem sub_snoc {l m : List α} {x p : α} (h : (l ++ [x]).Sublist (m ++ [p])) : (l ++ [x]).Sublist m ∨ (x = p ∧ l.Sublist m) := by
  rw [List.sublist_append_iff] at h
  obtain ⟨l1, l2, e, h1, h2⟩ := h
  have : l2 = [] ∨ l2 = [p] := by
    cases h2 with
    | cons _ h => left; cases h; rfl
    | cons_cons _ h => right; cases h; rfl
  rcases this with rfl | rfl
  · left; rw [List.append_nil] at e; rw [e]; exact h1
  · right
    obtain ⟨e1, e2⟩ := List.append_inj' e rfl
    cases e2
    exact ⟨rfl, e1 ▸ h1⟩
/-- all sets of parts, each part's with behind those without -/
def subl (ps : List α) : List (List α) := ps.foldl (fun found p => found ++ found.map fun row => row ++ [p]) [[]]
theorem subl_snoc (ps : List α) (p : α) : subl (ps ++ [p]) = subl ps ++ (subl ps).map fun row => row ++ [p] := by
  unfold subl; rw [List.foldl_append]; rfl
theorem snoc_cases {motive : List α → Prop} (ps : List α) (h0 : motive []) (h1 : ∀ ps p, motive ps → motive (ps ++ [p])) : motive ps := by
  have : ∀ n (ps : List α), ps.length = n → motive ps := by
    intro n
    induction n with
    | zero => intro ps h; rw [List.length_eq_zero_iff.mp h]; exact h0
    | succ n ih =>
      intro ps h
      have hne : ps ≠ [] := by rintro rfl; simp at h
      rw [← List.dropLast_concat_getLast hne]
      exact h1 _ _ (ih _ (by rw [List.length_dropLast]; omega))
  exact this _ ps rfl
theorem subl_mem (ps : List α) : ∀ row : List α, row ∈ subl ps ↔ row.Sublist ps := by
  refine snoc_cases (motive := fun ps => ∀ row : List α, row ∈ subl ps ↔ row.Sublist ps) ps (fun row => by simp [subl]) fun ps p ih row => ?_
  rw [subl_snoc, List.mem_append, List.mem_map, ih]
  constructor
  · rintro (h | ⟨r, h, rfl⟩)
    · exact h.trans (List.sublist_append_left _ _)
    · exact ((ih r).mp h).append (List.Sublist.refl _)
  · intro h
    by_cases e : row = []
    · subst e; exact .inl (List.nil_sublist _)
    · rw [← List.dropLast_concat_getLast e] at h ⊢
      rcases sub_snoc h with h | ⟨h1, h2⟩
      · exact .inl h
      · exact .inr ⟨_, (ih _).mpr h2, by rw [h1]⟩
theorem subl_nodup (ps : List α) : ps.Nodup → (subl ps).Nodup := by
  refine snoc_cases (motive := fun ps => ps.Nodup → (subl ps).Nodup) ps (fun _ => by simp [subl]) fun ps p ih nd => ?_
  rw [List.nodup_append] at nd
  rw [subl_snoc, List.nodup_append]
  refine ⟨ih nd.1, (List.pairwise_map.mpr ((ih nd.1).imp fun h e => h (List.append_cancel_right e))), fun a ha b hb e => ?_⟩
  obtain ⟨r, _, rfl⟩ := List.mem_map.mp hb
  have := (subl_mem ps a).mp ha
  rw [e] at this
  exact nd.2.2 p (this.subset (by simp)) p (by simp) rfl
theorem subl_len (ps : List α) : (subl ps).length = 2 ^ ps.length := by
  refine snoc_cases (motive := fun ps => (subl ps).length = 2 ^ ps.length) ps rfl fun ps p ih => ?_
  rw [subl_snoc, List.length_append, List.length_map, ih, List.length_append, List.length_singleton, Nat.pow_succ]; omega
/-- sets of so many parts, with the place behind the last one -/
def prow (ps : List α) : Nat → List (List α × Nat)
  | 0 => [([], 0)]
  | m + 1 => (prow ps m).flatMap fun p => (List.range (ps.length - p.2)).filterMap fun j => (ps[p.2 + j]?).map fun x => (p.1 ++ [x], p.2 + j + 1)
theorem prow_mem (ps : List α) : ∀ (m : Nat) (p : List α × Nat), p ∈ prow ps m → p.1.Sublist (ps.take p.2) ∧ p.1.length = m ∧ p.2 ≤ ps.length
  | 0, p, h => by
    simp only [prow, List.mem_singleton] at h; subst h; exact ⟨List.nil_sublist _, rfl, Nat.zero_le _⟩
  | m + 1, p, h => by
    simp only [prow, List.mem_flatMap, List.mem_filterMap, List.mem_range, Option.map_eq_some_iff] at h
    obtain ⟨q, hq, j, hj, x, hx, rfl⟩ := h
    obtain ⟨h1, h2, h3⟩ := prow_mem ps m q hq
    obtain ⟨hl, he⟩ := List.getElem?_eq_some_iff.mp hx
    refine ⟨?_, by simp [h2], by simp; omega⟩
    show (q.1 ++ [x]).Sublist (ps.take (q.2 + j + 1))
    rw [List.take_add_one, hx]
    refine List.Sublist.append (h1.trans ?_) (List.Sublist.refl _)
    exact (List.take_prefix_take_left (by omega)).sublist
theorem sub_take_snoc {ps row : List α} {x : α} : ∀ {j : Nat}, (row ++ [x]).Sublist (ps.take j) → ∃ k, k < j ∧ ps[k]? = some x ∧ row.Sublist (ps.take k)
  | 0, h => by simp at h
  | j + 1, h => by
    rw [List.take_add_one] at h
    cases e : ps[j]? with
    | none =>
      rw [e] at h
      simp at h
      obtain ⟨k, h1, h2⟩ := sub_take_snoc h
      exact ⟨k, by omega, h2⟩
    | some p =>
      rw [e] at h
      rcases sub_snoc (p := p) h with h | ⟨rfl, h'⟩
      · obtain ⟨k, h1, h2⟩ := sub_take_snoc h
        exact ⟨k, by omega, h2⟩
      · exact ⟨j, by omega, e, h'⟩
theorem prow_has (ps : List α) : ∀ (m : Nat) (row : List α) (j : Nat), row.Sublist (ps.take j) → row.length = m → ∃ a, a ≤ j ∧ (row, a) ∈ prow ps m
  | 0, row, j, _, h => by rw [List.length_eq_zero_iff.mp h]; exact ⟨0, Nat.zero_le _, by simp [prow]⟩
  | m + 1, row, j, hs, h => by
    have hne : row ≠ [] := by rintro rfl; simp at h
    rw [← List.dropLast_concat_getLast hne] at hs ⊢
    obtain ⟨k, hk, hx, hr⟩ := sub_take_snoc hs
    obtain ⟨a, ha, hm⟩ := prow_has ps m row.dropLast k hr (by rw [List.length_dropLast]; omega)
    refine ⟨k + 1, by omega, ?_⟩
    simp only [prow, List.mem_flatMap, List.mem_filterMap, List.mem_range, Option.map_eq_some_iff]
    obtain ⟨hkl, _⟩ := List.getElem?_eq_some_iff.mp hx
    exact ⟨_, hm, k - a, by show k - a < ps.length - a; omega, _, by rw [show a + (k - a) = k by omega]; exact hx, by simp; omega⟩
def comb (ps : List α) (m : Nat) : List (List α) := (prow ps m).map (·.1)
theorem comb_mem (ps : List α) (m : Nat) (row : List α) : row ∈ comb ps m ↔ row.Sublist ps ∧ row.length = m := by
  unfold comb
  rw [List.mem_map]
  constructor
  · rintro ⟨p, hp, rfl⟩
    obtain ⟨h1, h2, _⟩ := prow_mem ps m p hp
    exact ⟨h1.trans (List.take_sublist _ _), h2⟩
  · rintro ⟨h1, h2⟩
    obtain ⟨a, _, h⟩ := prow_has ps m row ps.length (by rw [List.take_length]; exact h1) h2
    exact ⟨_, h, rfl⟩
/-- how many: no more than two to the number of parts -/
def wsum (ps : List α) (l : List (List α × Nat)) : Nat := (l.map fun p => 2 ^ (ps.length - p.2)).sum
theorem pow_sum (n : Nat) : ∀ (a : Nat) (ps : List α) (r : List α), a ≤ ps.length → ps.length - a = n → (((List.range n).filterMap fun j => (ps[a + j]?).map fun x => (r ++ [x], a + j + 1)).map fun p => 2 ^ (ps.length - p.2)).sum ≤ 2 ^ n := by
  induction n with
  | zero => intros; simp
  | succ n ih =>
    intro a ps r ha hn
    rw [List.range_succ_eq_map, List.filterMap_cons]
    have h0 : ∃ x, ps[a]? = some x := ⟨ps[a], List.getElem?_eq_getElem (by omega)⟩
    obtain ⟨x, hx⟩ := h0
    rw [show a + 0 = a from rfl, hx]
    simp only [Option.map_some, List.map_cons, List.sum_cons, List.filterMap_map]
    have := ih (a + 1) ps r (by omega) (by omega)
    have e : ((List.range n).filterMap ((fun j => (ps[a + j]?).map fun x => (r ++ [x], a + j + 1)) ∘ Nat.succ)) = (List.range n).filterMap fun j => (ps[a + 1 + j]?).map fun x => (r ++ [x], a + 1 + j + 1) := by
      congr 1; funext j; show (ps[a + (j + 1)]?).map _ = _; rw [show a + (j + 1) = a + 1 + j by omega]
    rw [e, show ps.length - (a + 1) = n by omega, Nat.pow_succ]
    omega
theorem wsum_prow (ps : List α) : ∀ m, wsum ps (prow ps m) ≤ 2 ^ ps.length
  | 0 => by simp [wsum, prow]
  | m + 1 => by
    refine Nat.le_trans ?_ (wsum_prow ps m)
    unfold wsum
    simp only [prow]
    have hb : ∀ p ∈ prow ps m, p.2 ≤ ps.length := fun p hp => (prow_mem ps m p hp).2.2
    generalize prow ps m = l at hb ⊢
    induction l with
    | nil => simp
    | cons p l ih =>
      rw [List.flatMap_cons, List.map_append, List.sum_append, List.map_cons, List.sum_cons]
      have h1 := ih fun q hq => hb q (List.mem_cons_of_mem _ hq)
      have h2 := pow_sum (ps.length - p.2) p.2 ps p.1 (hb p List.mem_cons_self) rfl
      omega
theorem prow_len (ps : List α) (m : Nat) : (prow ps m).length ≤ 2 ^ ps.length := by
  refine Nat.le_trans ?_ (wsum_prow ps m)
  unfold wsum
  generalize prow ps m = l
  induction l with
  | nil => simp
  | cons p l ih =>
    rw [List.map_cons, List.sum_cons, List.length_cons]
    have := Nat.one_le_two_pow (n := ps.length - p.2)
    omega
end
section
variable {α : Type} [DecidableEq α] [DatumOrd α]
theorem listLt_app : ∀ {a b : List α} (u v : List α), a.length = b.length → listLt a b = true → listLt (a ++ u) (b ++ v) = true
  | [], [], _, _, _, h => by cases h
  | [], _ :: _, _, _, h, _ => by simp at h
  | _ :: _, [], _, _, h, _ => by simp at h
  | x :: a, y :: b, u, v, hl, h => by
    rw [List.cons_append, List.cons_append]
    unfold listLt at h ⊢
    by_cases e : x = y
    · rw [if_pos e] at h ⊢; exact listLt_app u v (by simpa using hl) h
    · rw [if_neg e] at h ⊢; exact h
theorem listLt_last : ∀ (a : List α) {x y : α}, DatumOrd.lt x y = true → listLt (a ++ [x]) (a ++ [y]) = true
  | [], x, y, h => by
    show (if x = y then listLt [] [] else DatumOrd.lt x y) = true
    rw [if_neg (dlt_ne h)]; exact h
  | z :: a, x, y, h => by
    show (if z = z then listLt (a ++ [x]) (a ++ [y]) else DatumOrd.lt z z) = true
    rw [if_pos rfl]; exact listLt_last a h
/-- ascending parts: the sets of so many are ascending -/
theorem prow_asc {ps : List α} (hp : Asc ps) : ∀ m, (prow ps m).Pairwise fun p q => listLt p.1 q.1 = true
  | 0 => by simp [prow]
  | m + 1 => by
    have ih := prow_asc hp m
    have hm : ∀ p ∈ prow ps m, p.1.length = m := fun p h => (prow_mem ps m p h).2.1
    simp only [prow]
    generalize prow ps m = l at ih hm ⊢
    induction l with
    | nil => simp
    | cons p l il =>
      rw [List.flatMap_cons, List.pairwise_append]
      obtain ⟨h1, h2⟩ := List.pairwise_cons.mp ih
      refine ⟨?_, il h2 fun q hq => hm q (List.mem_cons_of_mem _ hq), ?_⟩
      · rw [List.pairwise_filterMap]
        refine List.pairwise_lt_range.imp ?_
        intro i j hij b hb c hc
        rw [Option.map_eq_some_iff] at hb hc
        obtain ⟨x, hx, rfl⟩ := hb
        obtain ⟨y, hy, rfl⟩ := hc
        refine listLt_last p.1 ?_
        obtain ⟨l1, e1⟩ := List.getElem?_eq_some_iff.mp hx
        obtain ⟨l2, e2⟩ := List.getElem?_eq_some_iff.mp hy
        rw [← e1, ← e2]
        exact List.pairwise_iff_getElem.mp hp _ _ l1 l2 (by omega)
      · intro a ha b hb
        rw [List.mem_filterMap] at ha
        obtain ⟨i, _, hi⟩ := ha
        rw [Option.map_eq_some_iff] at hi
        obtain ⟨x, _, rfl⟩ := hi
        rw [List.mem_flatMap] at hb
        obtain ⟨q, hq, hb⟩ := hb
        rw [List.mem_filterMap] at hb
        obtain ⟨j, _, hj⟩ := hb
        rw [Option.map_eq_some_iff] at hj
        obtain ⟨y, _, rfl⟩ := hj
        exact listLt_app [x] [y] (by rw [hm p List.mem_cons_self, hm q (List.mem_cons_of_mem _ hq)]) (h1 q hq)
theorem comb_asc {ps : List α} (hp : Asc ps) (m : Nat) : (comb ps m).Pairwise fun a b => listLt a b = true := by
  unfold comb; rw [List.pairwise_map]; exact prow_asc hp m
end
end PyD
namespace PyD
open PySem PySem.Spec L2 PySem.W
open PyProof.Rows hiding St
def tm (net : List Fu) (L : List (Str × Int)) (k : Str) : Option Int := aget (rounds net net.length L) k
section
variable {net : List Fu} {L es : List (Str × Int)}
theorem tm_burnt (hN : NetOk net) (hL : LiOk L) : Burnt net L (rounds net net.length L) := rounds_burnt hN.pos hL.nn (Nat.le_refl _) hL.nd
theorem Burnt.tm (B : Burnt net L es) (hN : NetOk net) (hL : LiOk L) (k : Str) : aget es k = tm net L k := B.same (tm_burnt hN hL) k
theorem tm_is (hN : NetOk net) (hL : LiOk L) (k : Str) (t : Int) : tm net L k = some t ↔ Comes net L k t := (tm_burnt hN hL).is k t
theorem tm_some (hN : NetOk net) (hL : LiOk L) (k : Str) : (tm net L k).isSome = true ↔ ∃ t, Fire net L k t := by
  rw [Option.isSome_iff_exists]
  exact ⟨fun ⟨t, h⟩ => ⟨t, ((tm_is hN hL k t).mp h).1⟩, fun ⟨t, h⟩ => let ⟨t0, c⟩ := h.least hN.pos hL.nn; ⟨t0, (tm_is hN hL k t0).mpr c⟩⟩
theorem tm_joins (hN : NetOk net) (hL : LiOk L) {f : Fu} (hf : f ∈ net) {u v : Str} (hj : Joins f u v) (h : (tm net L u).isSome = true) : (tm net L v).isSome = true := by
  rw [tm_some hN hL] at h ⊢
  obtain ⟨t, h⟩ := h
  exact ⟨_, .go h hf hj⟩
theorem tm_ab (hN : NetOk net) (hL : LiOk L) {f : Fu} (hf : f ∈ net) : (tm net L f.a).isSome = (tm net L f.b).isSome := by
  rw [Bool.eq_iff_iff]
  exact ⟨tm_joins hN hL hf (.inl ⟨rfl, rfl⟩), tm_joins hN hL hf (.inr ⟨rfl, rfl⟩)⟩
theorem Fire.mono {net' : List Fu} (h : ∀ f ∈ net, f ∈ net') {k : Str} {t : Int} (q : Fire net L k t) : Fire net' L k t := by
  induction q with
  | lit h => exact .lit h
  | go _ hf hj ih => exact .go ih (h _ hf) hj
end
def optI : Option Int → D
  | none => .none
  | some i => .int i
def unbF (net : List Fu) (L : List (Str × Int)) : List Fu := net.filter fun f => !(tm net L f.a).isSome
def bgn (net : List Fu) (L : List (Str × Int)) (f : Fu) : Option Int := match tm net L f.a, tm net L f.b with
  | some t, some u => some (if u < t then u else t)
  | _, _ => none
def freeP (net : List Fu) (L : List (Str × Int)) (m : Int) (f : Fu) : Bool := match bgn net L f with
  | none => true
  | some b => decide (m ≤ b)
def freeF (net : List Fu) (L : List (Str × Int)) (m : Int) : List Fu := net.filter (freeP net L m)
def woF (net cut : List Fu) : List Fu := net.filter fun f => !decide (f ∈ cut)
theorem NetOk.filter {net : List Fu} (h : NetOk net) (p : Fu → Bool) : NetOk (net.filter p) := ⟨fun f hf => h.pos f (List.mem_filter.mp hf).1, Nat.le_trans (List.length_filter_le _ _) h.len⟩
def charD (x : Str) : Bool := inS x "abcdefghijklmnopqrstuvwxyz" || inS x "0123456789"
def nameS (x : Str) : Bool := decide (1 ≤ (x.length : Int)) && decide ((x.length : Int) ≤ 8) && !decide (x ∈ (["all", "any", "none"] : List Str)) &&
  (match x.cps.toList with
   | c :: _ => inS ⟨#[c]⟩ "abcdefghijklmnopqrstuvwxyz"
   | [] => false) && (x.cps.toList.all fun c => charD ⟨#[c]⟩)
def isNameD : D → Bool
  | .str x => nameS x
  | _ => false
def isNumD (lo hi : Int) : D → Bool
  | .int i => decide (lo ≤ i) && decide (i ≤ hi)
  | _ => false
open PySem.W in
def isFuseD : D → Bool
  | .tuple [.str a, .str b, c] => nameS a && nameS b && DatumOrd.lt a b && isNumD 1 1000 c
  | _ => false
open PySem.W in
def ascD : List D → Bool
  | x :: y :: r => dataLt x y && ascD (y :: r)
  | _ => true
def isNetD : D → Bool
  | .tuple xs => decide (1 ≤ (xs.length : Int)) && decide ((xs.length : Int) ≤ 24) && xs.all isFuseD && ascD xs
  | _ => false
theorem fuse_of {d : D} (h : isFuseD d = true) : ∃ f : Fu, d = fuD f := by
  unfold isFuseD at h
  split at h
  · rename_i a b c
    rw [Bool.and_eq_true] at h
    cases c with
    | int i => exact ⟨⟨a, b, i⟩, rfl⟩
    | _ => exact absurd h.2 (by simp [isNumD])
  · cases h
theorem ascD_map {α : Type} [DecidableEq α] [DatumOrd α] : ∀ xs : List α, ascD (xs.map Datum.toD) = true ↔ Asc xs
  | [] => by simp [ascD, Asc]
  | [x] => by simp [ascD, Asc]
  | x :: y :: r => by
    show (dataLt (Datum.toD x) (Datum.toD y) && ascD ((y :: r).map Datum.toD)) = true ↔ _
    rw [Bool.and_eq_true, DatumOrd.lt_eq, ascD_map (y :: r)]
    constructor
    · rintro ⟨h1, h2⟩
      refine List.pairwise_cons.mpr ⟨fun z hz => ?_, h2⟩
      rcases List.mem_cons.mp hz with rfl | hz
      · exact h1
      · exact dlt_trans h1 ((List.pairwise_cons.mp h2).1 z hz)
    · intro h
      obtain ⟨h1, h2⟩ := List.pairwise_cons.mp h
      exact ⟨h1 y List.mem_cons_self, h2⟩
theorem ascD_at : ∀ (xs : List D), ascD xs = (List.range (xs.length - 1)).all fun k => dataLt (xs.getD k .none) (xs.getD (k + 1) .none)
  | [] => rfl
  | [x] => rfl
  | x :: y :: r => by
    show (dataLt x y && ascD (y :: r)) = _
    rw [ascD_at (y :: r)]
    show _ = (List.range (r.length + 1)).all _
    rw [List.range_succ_eq_map, List.all_cons, List.all_map]
    rfl
mutual
def smD : D → Bool
  | .str x => decide (x.length ≤ 16777216)
  | .list xs => smAll xs
  | .tuple xs => smAll xs
  | _ => true
def smAll : List D → Bool
  | [] => true
  | d :: ds => smD d && smAll ds
end
/-- any value: plain, not too deep, its texts not too long -/
structure OkV (d : D) : Prop where
  pl : d.plain = true
  dp : d.depth ≤ 100
  sm : smD d = true
theorem smAll_mem : ∀ {xs : List D}, smAll xs = true → ∀ d ∈ xs, smD d = true
  | x :: xs, h, d, hd => by
    rw [smAll, Bool.and_eq_true] at h
    rcases List.mem_cons.mp hd with rfl | hd
    · exact h.1
    · exact smAll_mem h.2 d hd
theorem plainAll_mem : ∀ {xs : List D}, PyData.plainAll xs = true → ∀ d ∈ xs, d.plain = true
  | x :: xs, h, d, hd => by
    rw [PyData.plainAll, Bool.and_eq_true] at h
    rcases List.mem_cons.mp hd with rfl | hd
    · exact h.1
    · exact plainAll_mem h.2 d hd
theorem OkV.str {x : Str} (h : OkV (.str x)) : x.length ≤ 16777216 := of_decide_eq_true h.sm
theorem OkV.mem {xs : List D} (h : OkV (.tuple xs)) {d : D} (hd : d ∈ xs) : OkV d := by
  have h1 := h.pl
  have h2 := h.dp
  have h3 := h.sm
  rw [PyData.plain] at h1
  rw [PyData.depth] at h2
  rw [smD] at h3
  exact ⟨plainAll_mem h1 d hd, Nat.le_trans (depth_mem hd) (by omega), smAll_mem h3 d hd⟩
theorem OkV.eqOk {d e : D} (h : OkV d) (g : e.plain = true) : EqOk d e := ⟨h.pl, g, Nat.le_trans (Nat.min_le_left _ _) (Nat.le_trans h.dp (by omega))⟩
theorem OkV.inOk {d : D} (h : OkV d) {xs : List D} (g : PyData.plainAll xs = true) : InOk d xs := ⟨g, h.pl, Nat.le_trans (Nat.min_le_right _ _) (Nat.le_trans h.dp (by omega))⟩
def q_is_name : MF := fun ds Q => ∃ d, ds = [d] ∧ OkV d ∧ Q (.bool (isNameD d))
def q_is_number : MF := fun ds Q => ∃ d lo hi, ds = [d, .int lo, .int hi] ∧ d.plain = true ∧ Q (.bool (isNumD lo hi d))
/-- rows that can be compared, each with the next one -/
def NextOk (xs : List D) : Prop := ∀ k, k + 1 < xs.length → LtOk (xs.getD k .none) (xs.getD (k + 1) .none)
def q_is_ascending : MF := fun ds Q => ∃ xs, (ds = [.list xs] ∨ ds = [.tuple xs]) ∧ xs.length ≤ 1000000 ∧ NextOk xs ∧ Q (.bool (ascD xs))
def q_is_fuse : MF := fun ds Q => ∃ d, ds = [d] ∧ OkV d ∧ Q (.bool (isFuseD d))
def q_is_net : MF := fun ds Q => ∃ d, ds = [d] ∧ OkV d ∧ Q (.bool (isNetD d))
end PyD
namespace PyD
open PySem PySem.Spec L2 PySem.W
open PyProof.Rows hiding St
def q_unburnt : MF := fun ds Q => ∃ (net : List Fu) (L : List (Str × Int)), ds = [netD net, lisD L] ∧ NetOk net ∧ LiOk L ∧ Q (netD (unbF net L))
def q_begin_of : MF := fun ds Q => ∃ (net : List Fu) (L : List (Str × Int)) (f : Fu), ds = [netD net, lisD L, fuD f] ∧ NetOk net ∧ LiOk L ∧ f ∈ net ∧ Q (optI (bgn net L f))
def q_can_be_cut : MF := fun ds Q => ∃ (net : List Fu) (L : List (Str × Int)) (m : Int), ds = [netD net, lisD L, .int m] ∧ NetOk net ∧ LiOk L ∧ Q (netD (freeF net L m))
def q_net_without : MF := fun ds Q => ∃ (net cut : List Fu), ds = [netD net, netD cut] ∧ net.length ≤ 1000 ∧ Q (netD (woF net cut))
def q_part_rows : MF := fun ds Q => ∃ (ps : List Fu) (m : Nat), ds = [netD ps, .int m] ∧ ps.length ≤ 20 ∧ m ≤ 1000 ∧ Q (.list ((comb ps m).map netD))
def sav (net : List Fu) (L : List (Str × Int)) (cut : List Fu) : Int := ((net.filter fun f => decide (f ∈ cut) || !(tm (woF net cut) L f.a).isSome).map (·.c)).sum
def q_saved_length : MF := fun ds Q => ∃ (net : List Fu) (L : List (Str × Int)) (cut : List Fu), ds = [netD net, lisD L, netD cut] ∧ NetOk net ∧ LiOk L ∧ Q (.int (sav net L cut))
/-- the first with the greatest number -/
def bestStep {β : Type} (s : β → Int) (b : Option (Int × β)) (x : β) : Option (Int × β) := match b with
  | none => some (s x, x)
  | some (m, y) => if m < s x then some (s x, x) else some (m, y)
def bestOf {β : Type} (s : β → Int) (l : List β) : Option (Int × β) := l.foldl (bestStep s) none
theorem bestOf_go {β : Type} (s : β → Int) : ∀ (l : List β) (m : Int) (y : β), s y = m → ∃ z, l.foldl (bestStep s) (some (m, y)) = some (s z, z) ∧ (∀ x ∈ y :: l, s x ≤ s z) ∧ ((y :: l).filter fun x => decide (s x = s z))[0]? = some z
  | [], m, y, h => ⟨y, by rw [h]; rfl, fun x hx => by rw [List.mem_singleton] at hx; rw [hx]; exact Int.le_refl _, by simp⟩
  | x :: l, m, y, h => by
    show ∃ z, l.foldl (bestStep s) (if m < s x then some (s x, x) else some (m, y)) = _ ∧ _
    by_cases c : m < s x
    · rw [if_pos c]
      obtain ⟨z, h1, h2, h3⟩ := bestOf_go s l (s x) x rfl
      have hz := h2 x List.mem_cons_self
      refine ⟨z, h1, fun w hw => ?_, ?_⟩
      · rcases List.mem_cons.mp hw with rfl | hw
        · omega
        · exact h2 w hw
      · rw [List.filter_cons, if_neg (by simp; omega)]; exact h3
    · rw [if_neg c]
      obtain ⟨z, h1, h2, h3⟩ := bestOf_go s l m y h
      have hz := h2 y List.mem_cons_self
      refine ⟨z, h1, fun w hw => ?_, ?_⟩
      · rcases List.mem_cons.mp hw with rfl | hw
        · exact hz
        · rcases List.mem_cons.mp hw with rfl | hw
          · omega
          · exact h2 w (List.mem_cons_of_mem _ hw)
      · by_cases e : s y = s z
        · rw [List.filter_cons, if_pos (by simpa using e)] at h3 ⊢; exact h3
        · rw [List.filter_cons, if_neg (by simpa using e)] at h3 ⊢
          rw [List.filter_cons, if_neg (by simp; omega)]; exact h3
theorem bestOf_is {β : Type} (s : β → Int) {l : List β} (h : l ≠ []) : ∃ z, bestOf s l = some (s z, z) ∧ (∀ x ∈ l, s x ≤ s z) ∧ z ∈ l ∧ (l.filter fun x => decide (s x = s z))[0]? = some z := by
  cases l with
  | nil => exact absurd rfl h
  | cons y l =>
    obtain ⟨z, h1, h2, h3⟩ := bestOf_go s l (s y) y rfl
    have hm := List.mem_of_getElem? h3
    exact ⟨z, h1, h2, (List.mem_filter.mp hm).1, h3⟩
def bestD : Option (Int × List Fu) → D
  | none => .none
  | some (s, c) => .tuple [.int s, netD c]
/-- all sets of at most so many, the fewer ones first -/
def allC (ps : List Fu) (m : Nat) : List (List Fu) := (List.range (m + 1)).flatMap (comb ps)
theorem allC_ne (ps : List Fu) (m : Nat) : allC ps m ≠ [] := by
  unfold allC
  rw [List.range_succ_eq_map, List.flatMap_cons]
  exact fun h => by have := (List.append_eq_nil_iff.mp h).1; simp [comb, prow] at this
def bestC (net : List Fu) (L : List (Str × Int)) (mom : Int) (m : Nat) : Option (Int × List Fu) := bestOf (sav net L) (allC (freeF net L mom) m)
def q_best_cuts : MF := fun ds Q => ∃ (net : List Fu) (L : List (Str × Int)) (mom : Int) (m : Nat), ds = [netD net, lisD L, .int mom, .int m] ∧ NetOk net ∧ LiOk L ∧ net.length ≤ 20 ∧ m ≤ 100 ∧ ∀ s cut, bestC net L mom m = some (s, cut) → Q (netD cut)
/-- the law's search list -/
theorem allC_law {ps : List Fu} (hp : Asc ps) (m : Nat) : ((srt ((subl ps).map fun r => ((r.length : Int), (⟨r⟩ : Tup Fu)))).map fun p => p.2.items).filter (fun r => decide (r.length ≤ m)) = allC ps m := by
  have n1 : ((subl ps).map fun r => ((r.length : Int), (⟨r⟩ : Tup Fu))).Nodup := List.pairwise_map.mpr ((subl_nodup ps hp.nodup).imp fun h e => h (by injection e with _ e; injection e))
  have a1 : Asc (srt ((subl ps).map fun r => ((r.length : Int), (⟨r⟩ : Tup Fu)))) := srt_strict n1
  have key : (srt ((subl ps).map fun r => ((r.length : Int), (⟨r⟩ : Tup Fu)))).filter (fun p => decide (p.2.items.length ≤ m)) = (allC ps m).map fun r => ((r.length : Int), (⟨r⟩ : Tup Fu)) := by
    refine Asc.uniq (a1.filter _) ?_ fun p => ?_
    · unfold Asc allC
      rw [List.pairwise_map, List.pairwise_flatMap]
      refine ⟨fun n _ => ?_, ?_⟩
      · refine List.Pairwise.imp_of_mem (fun {a b} ha hb h => ?_) (comb_asc hp n)
        rw [lt_pair]
        rw [if_pos (by show (a.length : Int) = b.length; rw [((comb_mem ps n a).mp ha).2, ((comb_mem ps n b).mp hb).2])]
        exact h
      · refine List.pairwise_lt_range.imp fun {i j} hij a ha b hb => ?_
        rw [lt_pair]
        have h1 := ((comb_mem ps i a).mp ha).2
        have h2 := ((comb_mem ps j b).mp hb).2
        rw [if_neg (by show ¬ (a.length : Int) = b.length; omega)]
        show decide ((a.length : Int) < b.length) = true
        exact decide_eq_true (by omega)
    · rw [List.mem_filter, srt_mem, List.mem_map, List.mem_map]
      constructor
      · rintro ⟨⟨r, hr, rfl⟩, hl⟩
        have hl := of_decide_eq_true hl
        exact ⟨r, List.mem_flatMap.mpr ⟨r.length, List.mem_range.mpr (Nat.lt_succ_of_le hl), (comb_mem _ _ _).mpr ⟨(subl_mem _ _).mp hr, rfl⟩⟩, rfl⟩
      · rintro ⟨r, hr, rfl⟩
        obtain ⟨n, hn, hr⟩ := List.mem_flatMap.mp hr
        obtain ⟨h1, h2⟩ := (comb_mem _ _ _).mp hr
        exact ⟨⟨r, (subl_mem _ _).mpr h1, rfl⟩, decide_eq_true (by have := List.mem_range.mp hn; show r.length ≤ m; omega)⟩
  rw [List.filter_map]
  have e : ((fun r : List Fu => decide (r.length ≤ m)) ∘ fun p : Int × Tup Fu => p.2.items) = fun p => decide (p.2.items.length ≤ m) := rfl
  rw [e, key, List.map_map]
  exact List.map_id' _
def ltr (i : Nat) : Str := ⟨#[97 + i]⟩
structure LawNet (n fu ln : Nat) (net : List Fu) : Prop where
  asc : Asc net
  one : 1 ≤ net.length
  len : net.length ≤ fu
  at_ : ∀ f ∈ net, ∃ i j : Nat, i < j ∧ j < n ∧ f.a = ltr i ∧ f.b = ltr j ∧ 1 ≤ f.c ∧ f.c ≤ ln
def q__law_net : MF := fun ds Q => ∃ n fu ln : Nat, ds = [.int n, .int fu, .int ln] ∧ 2 ≤ n ∧ n ≤ 8 ∧ 1 ≤ fu ∧ fu ≤ 100 ∧ 1 ≤ ln ∧ ln ≤ 1000 ∧ ∀ net, LawNet n fu ln net → Q (netD net)
theorem ltr_lt {i j : Nat} : DatumOrd.lt (ltr i) (ltr j) = decide (i < j) := by
  show decide ([97 + i] < [97 + j]) = _
  rw [Bool.eq_iff_iff, decide_eq_true_eq, decide_eq_true_eq]
  constructor
  · intro h
    rcases List.cons_lt_cons_iff.mp h with h | ⟨_, h⟩
    · omega
    · cases h
  · intro h; exact List.cons_lt_cons_iff.mpr (.inl (by omega))
theorem ltr_inj {i j : Nat} (h : ltr i = ltr j) : i = j := by injection h with h; simp at h; exact h
theorem ltr_name {i : Nat} (h : i < 8) : nameS (ltr i) = true := by
  have : ∀ i, i < 8 → nameS (ltr i) = true := by decide +kernel
  exact this i h
section
variable {n fu ln : Nat} {net : List Fu}
theorem LawNet.ok (h : LawNet n fu ln net) (hf : fu ≤ 1000) : NetOk net := ⟨fun f hf => by obtain ⟨i, j, _, _, _, _, h5, _⟩ := h.at_ f hf; omega, Nat.le_trans h.len hf⟩
theorem LawNet.fuse (h : LawNet n fu ln net) (hn : n ≤ 8) (hl : ln ≤ 1000) {f : Fu} (hf : f ∈ net) : isFuseD (fuD f) = true := by
  obtain ⟨i, j, h1, h2, h3, h4, h5, h6⟩ := h.at_ f hf
  show (nameS f.a && nameS f.b && DatumOrd.lt f.a f.b && isNumD 1 1000 (.int f.c)) = true
  rw [h3, h4, ltr_name (by omega), ltr_name (by omega), ltr_lt, decide_eq_true h1]
  show (decide (1 ≤ f.c) && decide (f.c ≤ 1000)) = true
  rw [decide_eq_true h5, decide_eq_true (by omega)]; rfl
theorem LawNet.isNet (h : LawNet n fu ln net) (hn : n ≤ 8) (hl : ln ≤ 1000) (hf : fu ≤ 24) : isNetD (netD net) = true := by
  show (decide (1 ≤ ((net.map fuD).length : Int)) && decide (((net.map fuD).length : Int) ≤ 24) && (net.map fuD).all isFuseD && ascD (net.map fuD)) = true
  rw [List.length_map]
  have h1 := h.one
  have h2 := h.len
  rw [decide_eq_true (by omega), decide_eq_true (by omega), (show ascD (net.map fuD) = true from (ascD_map net).mpr h.asc)]
  rw [List.all_eq_true.mpr (fun d hd => by obtain ⟨f, hf, rfl⟩ := List.mem_map.mp hd; exact h.fuse hn hl hf)]; rfl
theorem LawNet.okV (h : LawNet n fu ln net) (hn : n ≤ 8) : OkV (netD net) := by
  refine ⟨?_, ?_, ?_⟩
  · show PyData.plain (.tuple _) = true
    rw [PyData.plain]; exact plainAll_map (α := Fu) net
  · show PyData.depth (.tuple _) ≤ 100
    rw [PyData.depth]
    have := depthAll_map (α := Fu) net
    have : PyData.depthAll (net.map fuD) ≤ 1 := this
    omega
  · show smD (.tuple _) = true
    rw [smD]
    have key : ∀ l : List Fu, (∀ f ∈ l, f ∈ net) → smAll (l.map fuD) = true := by
      intro l
      induction l with
      | nil => intro _; rfl
      | cons f l ih =>
        intro hm
        rw [List.map_cons, smAll, ih fun g hg => hm g (List.mem_cons_of_mem _ hg), Bool.and_true]
        obtain ⟨i, j, h1, h2, h3, h4, _⟩ := h.at_ f (hm f List.mem_cons_self)
        show smD (.tuple [.str f.a, .str f.b, .int f.c]) = true
        rw [h3, h4]
        simp only [smD, smAll]
        rfl
    exact key net fun _ h => h
end
theorem Fire.cand {net : List Fu} {L : List (Str × Int)} {k : Str} {t : Int} (h : Fire net L k t) : k ∈ cand net L := by
  unfold PyD.cand
  cases h with
  | lit h => exact List.mem_append_left _ (List.mem_map.mpr ⟨_, h, rfl⟩)
  | go _ hf hj =>
    refine List.mem_append_right _ (List.mem_flatMap.mpr ⟨_, hf, ?_⟩)
    rcases hj with ⟨_, e⟩ | ⟨_, e⟩ <;> simp [e]
theorem Snd.len {net : List Fu} {L es : List (Str × Int)} (S : Snd net L es) (hN : NetOk net) (hL : LiOk L) : es.length ≤ 3000 := by
  have := Snd.cand_le S.nd (net := net) (L := L) fun k hk => by
    obtain ⟨t, ht⟩ := Option.isSome_iff_exists.mp (aget_key.mpr hk)
    exact (S.so k t ht).cand
  rw [cand_len] at this
  have := hN.len
  have := hL.len
  omega
theorem abc_at {n i : Nat} (hn : n ≤ 8) (hi : i < n) : atD (cutS (Str.ofString "abcdefgh") none (some (n : Int))).cps.toList (i : Int) = some (97 + i) := by
  have : ∀ n : Nat, n ≤ 8 → ∀ i : Nat, i < n → atD (cutS (Str.ofString "abcdefgh") none (some (n : Int))).cps.toList (i : Int) = some (97 + i) := by decide +kernel
  exact this n hn i hi
theorem abc_len {n : Nat} (hn : n ≤ 8) : (cutS (Str.ofString "abcdefgh") none (some (n : Int))).length ≤ sizeLine := by
  have : ∀ n : Nat, n ≤ 8 → (cutS (Str.ofString "abcdefgh") none (some (n : Int))).length ≤ 8 := by decide +kernel
  have := this n hn
  rw [sizeLine_eq]; omega
theorem fuD_mk (a b : Str) (c : Int) : PyData.tuple [.str a, .str b, .int c] = fuD ⟨a, b, c⟩ := rfl
/-- the knots of a net, in order -/
def knl (net : List Fu) : List Str := srt ((net.flatMap fun f => [f.a, f.b]).eraseDups)
structure LawLi (net : List Fu) (most late : Nat) (L : List (Str × Int)) : Prop where
  asc : Asc (L.map (·.1))
  ne : L ≠ []
  len : L.length ≤ most
  kn : ∀ p ∈ L, ∃ f ∈ net, p.1 = f.a ∨ p.1 = f.b
  mo : ∀ p ∈ L, 0 ≤ p.2 ∧ p.2 < late
theorem LawLi.ok {net : List Fu} {most late : Nat} {L : List (Str × Int)} (h : LawLi net most late L) (hm : most ≤ 1000) : LiOk L := ⟨h.asc.nodup, fun p hp => (h.mo p hp).1, Nat.le_trans h.len hm⟩
def q__law_knots : MF := fun ds Q => ∃ net : List Fu, ds = [netD net] ∧ net.length ≤ 1000 ∧ ∀ ks : List Str, Asc ks → (∀ k, k ∈ ks ↔ ∃ f ∈ net, k = f.a ∨ k = f.b) → ks.length ≤ 2 * net.length → Q (.list (ks.map .str))
def q__law_lights : MF := fun ds Q => ∃ (net : List Fu) (most late : Nat), ds = [netD net, .int most, .int late] ∧ net ≠ [] ∧ net.length ≤ 1000 ∧ 1 ≤ most ∧ most ≤ 1000 ∧ 1 ≤ late ∧ late ≤ 100000 ∧ ∀ L, LawLi net most late L → Q (lisD L)
def q__law_times : MF := fun ds Q => ∃ (net : List Fu) (L : List (Str × Int)), ds = [netD net, lisD L] ∧ NetOk net ∧ LiOk L ∧ ∀ es, Burnt net L es → Q (dS .int es)
def q__law_begin : MF := q_begin_of
def q__law_free : MF := fun ds Q => ∃ (net : List Fu) (L : List (Str × Int)) (m : Int), ds = [netD net, lisD L, .int m] ∧ NetOk net ∧ LiOk L ∧ Q (.list ((freeF net L m).map fuD))
def q__law_rest : MF := q_net_without
def q__law_sets : MF := fun ds Q => ∃ ps : List Fu, ds = [.list (ps.map fuD)] ∧ ps.length ≤ 20 ∧ Q (.list (((srt ((subl ps).map fun r => ((r.length : Int), (⟨r⟩ : Tup Fu)))).map fun p => p.2.items).map netD))
def q__law_saved : MF := q_saved_length
end PyD
namespace PyD
open PySem PySem.Spec L2 PySem.W
open PyProof.Rows hiding St
theorem netD_pl (net : List Fu) : (netD net).plain = true := by
  show PyData.plain (.tuple _) = true
  rw [PyData.plain]; exact plainAll_map (α := Fu) net
theorem netD_dp (net : List Fu) : (netD net).depth ≤ 2 := by
  show PyData.depth (.tuple _) ≤ 2
  rw [PyData.depth]
  have : PyData.depthAll (net.map fuD) ≤ 1 := depthAll_map (α := Fu) net
  omega
theorem same_net {xs ys : List Fu} {Q : D → Prop} (h : xs = ys) (q : Q (.bool true)) : fSame 10 [netD xs, netD ys] Q := same_true (n := 9) (by rw [h]) (netD_pl _) (Nat.le_trans (netD_dp _) (by omega)) q
theorem same_int {i j : Int} {Q : D → Prop} (h : i = j) (q : Q (.bool true)) : fSame 10 [.int i, .int j] Q := same_true (n := 9) (by rw [h]) rfl (Nat.zero_le _) q
theorem same_bool {i j : Bool} {Q : D → Prop} (h : i = j) (q : Q (.bool true)) : fSame 10 [.bool i, .bool j] Q := same_true (n := 9) (by rw [h]) rfl (Nat.zero_le _) q
theorem sum_filter_le {α : Type} (c : α → Int) (p q : α → Bool) : ∀ (l : List α), (∀ x ∈ l, 0 ≤ c x) → (∀ x ∈ l, p x = true → q x = true) → ((l.filter p).map c).sum ≤ ((l.filter q).map c).sum
  | [], _, _ => by simp
  | x :: l, h0, h => by
    have ih := sum_filter_le c p q l (fun y hy => h0 y (List.mem_cons_of_mem _ hy)) (fun y hy => h y (List.mem_cons_of_mem _ hy))
    have hx := h0 x List.mem_cons_self
    rw [List.filter_cons, List.filter_cons]
    by_cases hp : p x = true
    · rw [if_pos hp, if_pos (h x List.mem_cons_self hp)]; simp only [List.map_cons, List.sum_cons]; omega
    · rw [if_neg hp]
      by_cases hq : q x = true
      · rw [if_pos hq]; simp only [List.map_cons, List.sum_cons]; omega
      · rw [if_neg hq]; exact ih
theorem woF_mono {net cut more : List Fu} (h : ∀ f ∈ cut, f ∈ more) : ∀ f ∈ woF net more, f ∈ woF net cut := fun f hf => by
  obtain ⟨h1, h2⟩ := List.mem_filter.mp hf
  have hm : f ∉ more := by simpa using h2
  exact List.mem_filter.mpr ⟨h1, by simpa using fun z => hm (h f z)⟩
theorem sav_mono {net cut more : List Fu} {L : List (Str × Int)} (hN : NetOk net) (hL : LiOk L) (h : ∀ f ∈ cut, f ∈ more) : sav net L cut ≤ sav net L more := by
  refine sum_filter_le _ _ _ net (fun f hf => Int.le_of_lt (hN.pos f hf)) fun f hf hp => ?_
  rw [Bool.or_eq_true] at hp ⊢
  rcases hp with hp | hp
  · exact .inl (decide_eq_true (h f (of_decide_eq_true hp)))
  · refine .inr ?_
    cases e : (tm (woF net more) L f.a).isSome with
    | false => rfl
    | true =>
      obtain ⟨t, ht⟩ := (tm_some (hN.filter _) hL f.a).mp e
      have := (tm_some (hN.filter fun f => !decide (f ∈ cut)) hL f.a).mpr ⟨t, ht.mono (woF_mono h)⟩
      unfold woF at hp
      rw [this] at hp; cases hp
theorem sav_all (net : List Fu) (L : List (Str × Int)) : sav net L net = (net.map (·.c)).sum := by
  unfold sav
  rw [List.filter_eq_self.mpr fun f hf => by rw [decide_eq_true hf]; rfl]
theorem Asc.filter' {α : Type} [DecidableEq α] [DatumOrd α] {l : List α} (h : Asc l) (p : α → Bool) : Asc (l.filter p) := h.filter _
theorem isMax_best {β : Type} {s : β → Int} {l : List β} {z : β} {m : Int} (hm : IsMax m (l.map s)) (h : ∀ x ∈ l, s x ≤ s z) (hz : z ∈ l) : m = s z := by
  obtain ⟨x, hx, rfl⟩ := List.mem_map.mp hm.1
  have := hm.2 _ (List.mem_map.mpr ⟨z, hz, rfl⟩)
  have : decide (s x < s z) = false := this
  have := of_decide_eq_false this
  have := h x hx
  omega
end PyD
namespace K44
open PySem PySem.Spec L2 PyD
open PySem.W (Datum DatumOrd Tup T3 T4)
open PyProof.Rows hiding St
def topS (i : Nat) : Stmt := PySem.Challenge.pw_fuseslit_k44_whole_lengths_saved.main.body.getD i (.Pass ⟨0, 0, 0, 0⟩)

abbrev s_is_name : Stmt := topS 4
theorem sc_is_name : FnScope ["value", "sign"] ["value"] (defScope s_is_name) := ⟨rfl, rfl, rfl, by decide +kernel, rfl, by decide +kernel, by decide +kernel⟩
def i_is_name : SI := { own := [], bs := none }
abbrev s_is_number : Stmt := topS 5
theorem sc_is_number : FnScope ["value", "least", "most"] ["value", "least", "most"] (defScope s_is_number) := ⟨rfl, rfl, rfl, by decide +kernel, rfl, by decide +kernel, by decide +kernel⟩
def i_is_number : SI := { own := [], bs := none }
abbrev s_is_ascending : Stmt := topS 6
theorem sc_is_ascending : FnScope ["rows", "k"] ["rows"] (defScope s_is_ascending) := ⟨rfl, rfl, rfl, by decide +kernel, rfl, by decide +kernel, by decide +kernel⟩
def i_is_ascending : SI := { own := [], bs := none }
abbrev s_is_fuse : Stmt := topS 10
theorem sc_is_fuse : FnScope ["value"] ["value"] (defScope s_is_fuse) := ⟨rfl, rfl, rfl, by decide +kernel, rfl, by decide +kernel, by decide +kernel⟩
def i_is_fuse : SI := { own := [], bs := none }
abbrev s_is_net : Stmt := topS 11
theorem sc_is_net : FnScope ["value", "fuse"] ["value"] (defScope s_is_net) := ⟨rfl, rfl, rfl, by decide +kernel, rfl, by decide +kernel, by decide +kernel⟩
def i_is_net : SI := { own := [], bs := none }
abbrev s_fuses_at : Stmt := topS 12
theorem sc_fuses_at : FnScope ["net", "knot", "fuse"] ["net", "knot"] (defScope s_fuses_at) := ⟨rfl, rfl, rfl, by decide +kernel, rfl, by decide +kernel, by decide +kernel⟩
def i_fuses_at : SI := { own := [], bs := none }
abbrev s_beyond : Stmt := topS 13
theorem sc_beyond : FnScope ["fuse", "knot"] ["fuse", "knot"] (defScope s_beyond) := ⟨rfl, rfl, rfl, by decide +kernel, rfl, by decide +kernel, by decide +kernel⟩
def i_beyond : SI := { own := [], bs := none }
abbrev s_burn_times : Stmt := topS 15
theorem sc_burn_times : FnScope ["net", "lights", "best", "done", "here", "fuse", "there", "knot"] ["net", "lights"] (defScope s_burn_times) := ⟨rfl, rfl, rfl, by decide +kernel, rfl, by decide +kernel, by decide +kernel⟩
def i_burn_times : SI := { own := [2, 3], bs := none }
abbrev s_unburnt : Stmt := topS 16
theorem sc_unburnt : FnScope ["net", "lights", "times", "fuse"] ["net", "lights"] (defScope s_unburnt) := ⟨rfl, rfl, rfl, by decide +kernel, rfl, by decide +kernel, by decide +kernel⟩
def i_unburnt : SI := { own := [], bs := none }
abbrev s_begin_of : Stmt := topS 18
theorem sc_begin_of : FnScope ["net", "lights", "fuse", "times"] ["net", "lights", "fuse"] (defScope s_begin_of) := ⟨rfl, rfl, rfl, by decide +kernel, rfl, by decide +kernel, by decide +kernel⟩
def i_begin_of : SI := { own := [], bs := none }
abbrev s_can_be_cut : Stmt := topS 19
theorem sc_can_be_cut : FnScope ["net", "lights", "moment", "found", "fuse", "begin"] ["net", "lights", "moment"] (defScope s_can_be_cut) := ⟨rfl, rfl, rfl, by decide +kernel, rfl, by decide +kernel, by decide +kernel⟩
def i_can_be_cut : SI := { own := [3], bs := none }
abbrev s_net_without : Stmt := topS 20
theorem sc_net_without : FnScope ["net", "cut", "fuse"] ["net", "cut"] (defScope s_net_without) := ⟨rfl, rfl, rfl, by decide +kernel, rfl, by decide +kernel, by decide +kernel⟩
def i_net_without : SI := { own := [], bs := none }
abbrev s_part_rows : Stmt := topS 21
theorem sc_part_rows : FnScope ["parts", "many", "rows", "_", "row", "at", "k"] ["parts", "many"] (defScope s_part_rows) := ⟨rfl, rfl, rfl, by decide +kernel, rfl, by decide +kernel, by decide +kernel⟩
def i_part_rows : SI := { own := [], bs := none }
abbrev s_saved_length : Stmt := topS 22
theorem sc_saved_length : FnScope ["net", "lights", "cut", "rest", "kept", "fuse"] ["net", "lights", "cut"] (defScope s_saved_length) := ⟨rfl, rfl, rfl, by decide +kernel, rfl, by decide +kernel, by decide +kernel⟩
def i_saved_length : SI := { own := [], bs := none }
abbrev s_best_cuts : Stmt := topS 23
theorem sc_best_cuts : FnScope ["net", "lights", "moment", "many", "free", "best", "size", "cut", "saved"] ["net", "lights", "moment", "many"] (defScope s_best_cuts) := ⟨rfl, rfl, rfl, by decide +kernel, rfl, by decide +kernel, by decide +kernel⟩
def i_best_cuts : SI := { own := [], bs := none }
abbrev s__law_box : Stmt := topS 25
theorem sc__law_box : FnScope ["script"] ["script"] (defScope s__law_box) := ⟨rfl, rfl, rfl, by decide +kernel, rfl, by decide +kernel, by decide +kernel⟩
def i__law_box : SI := { own := [], bs := none }
abbrev s__law_load : Stmt := topS 26
theorem sc__law_load : FnScope ["box", "cells", "cell", "size", "first", "second"] ["box"] (defScope s__law_load) := ⟨rfl, rfl, rfl, by decide +kernel, rfl, by decide +kernel, by decide +kernel⟩
def i__law_load : SI := { own := [], bs := some 0 }
abbrev s__law_draw : Stmt := topS 27
theorem sc__law_draw : FnScope ["box", "many", "digit"] ["box", "many"] (defScope s__law_draw) := ⟨rfl, rfl, rfl, by decide +kernel, rfl, by decide +kernel, by decide +kernel⟩
def i__law_draw : SI := { own := [], bs := some 0 }
abbrev s__law_same : Stmt := topS 28
theorem sc__law_same : FnScope ["a", "b", "k"] ["a", "b"] (defScope s__law_same) := ⟨rfl, rfl, rfl, by decide +kernel, rfl, by decide +kernel, by decide +kernel⟩
def i__law_same : SI := { own := [], bs := none }
abbrev s__law_net : Stmt := topS 29
theorem sc__law_net : FnScope ["box", "knots", "fuses", "most", "names", "found", "step", "k", "j"] ["box", "knots", "fuses", "most"] (defScope s__law_net) := ⟨rfl, rfl, rfl, by decide +kernel, rfl, by decide +kernel, by decide +kernel⟩
def i__law_net : SI := { own := [5], bs := some 0 }
abbrev s__law_knots : Stmt := topS 30
theorem sc__law_knots : FnScope ["net", "one", "other", "length"] ["net"] (defScope s__law_knots) := ⟨rfl, rfl, rfl, by decide +kernel, rfl, by decide +kernel, by decide +kernel⟩
def i__law_knots : SI := { own := [], bs := none }
abbrev s__law_lights : Stmt := topS 31
theorem sc__law_lights : FnScope ["box", "net", "most", "late", "knots", "found", "step", "knot"] ["box", "net", "most", "late"] (defScope s__law_lights) := ⟨rfl, rfl, rfl, by decide +kernel, rfl, by decide +kernel, by decide +kernel⟩
def i__law_lights : SI := { own := [5], bs := some 0 }
abbrev s__law_times : Stmt := topS 32
theorem sc__law_times : FnScope ["net", "lights", "found", "step", "one", "other", "length", "here", "there"] ["net", "lights"] (defScope s__law_times) := ⟨rfl, rfl, rfl, by decide +kernel, rfl, by decide +kernel, by decide +kernel⟩
def i__law_times : SI := { own := [2], bs := none }
abbrev s__law_begin : Stmt := topS 33
theorem sc__law_begin : FnScope ["net", "lights", "fuse", "found"] ["net", "lights", "fuse"] (defScope s__law_begin) := ⟨rfl, rfl, rfl, by decide +kernel, rfl, by decide +kernel, by decide +kernel⟩
def i__law_begin : SI := { own := [], bs := none }
abbrev s__law_free : Stmt := topS 34
theorem sc__law_free : FnScope ["net", "lights", "moment", "found", "fuse", "begin"] ["net", "lights", "moment"] (defScope s__law_free) := ⟨rfl, rfl, rfl, by decide +kernel, rfl, by decide +kernel, by decide +kernel⟩
def i__law_free : SI := { own := [], bs := none }
abbrev s__law_rest : Stmt := topS 35
theorem sc__law_rest : FnScope ["net", "cut", "fuse"] ["net", "cut"] (defScope s__law_rest) := ⟨rfl, rfl, rfl, by decide +kernel, rfl, by decide +kernel, by decide +kernel⟩
def i__law_rest : SI := { own := [], bs := none }
abbrev s__law_sets : Stmt := topS 36
theorem sc__law_sets : FnScope ["rows", "found", "part", "row", "pair"] ["rows"] (defScope s__law_sets) := ⟨rfl, rfl, rfl, by decide +kernel, rfl, by decide +kernel, by decide +kernel⟩
def i__law_sets : SI := { own := [], bs := none }
abbrev s__law_saved : Stmt := topS 37
theorem sc__law_saved : FnScope ["net", "lights", "cut", "found", "fuse"] ["net", "lights", "cut"] (defScope s__law_saved) := ⟨rfl, rfl, rfl, by decide +kernel, rfl, by decide +kernel, by decide +kernel⟩
def i__law_saved : SI := { own := [], bs := none }
abbrev s_law : Stmt := topS 38
theorem sc_law : FnScope ["script", "box", "turn", "net", "lights", "moment", "many", "free", "rows", "step", "cut", "saved", "more", "most", "fuse"] ["script"] (defScope s_law) := ⟨rfl, rfl, rfl, by decide +kernel, rfl, by decide +kernel, by decide +kernel⟩
def i_law : SI := { own := [], bs := some 1 }

section
variable {P : Program} {w : World} {K : PySem.W.Frag} {mg : Str → Option Value} {base : Heap}
theorem ok_is_name {f : Addr} {fd : FuncData} (F : Fun K "is_name" "is_name" s_is_name f fd) (m_all : mg "all" = none) (m_isinstance : mg "isinstance" = none) (m_len : mg "len" = none) (m_str : mg "str" = none) {u_DIGITS : Value} (c_DIGITS : mg "DIGITS" = some u_DIGITS) (r_DIGITS : RelV (.str "0123456789") u_DIGITS) {v_RESERVED : Addr} (c_RESERVED : mg "RESERVED" = some (.ref v_RESERVED)) (w_RESERVED : GT K v_RESERVED [(.str "all"), (.str "any"), (.str "none")]) (a_RESERVED : ∀ av H, RepA K av H [(.str "all"), (.str "any"), (.str "none")] [(.str "all"), (.str "any"), (.str "none")]) {u_SMALL : Value} (c_SMALL : mg "SMALL" = some u_SMALL) (r_SMALL : RelV (.str "abcdefghijklmnopqrstuvwxyz") u_SMALL) : FnOk P w K mg base CX0 1 f fd ["value"] (spD K 1 q_is_name) := by
  have nd := sc_is_name.nd
  refine fnD (φ := q_is_name) F sc_is_name i_is_name rfl rfl (by decide) (fun cdv A outer s H E hr => (dss_cons (ds_if (dt_w (dw_or (dt_not (dt_tru (db (de_isa (N := "str") (by decide) (w_b 0) (by rfl) m_isinstance (by rfl) m_str boot_str)))) (dw_or (dt_not (dt_chain (r_le (hu200 hr)) (r_le (hu200 hr)) (db de_int) (db (de_bi r_len (by rfl) m_len boot_len (dab_cons (w_b 0) dab_nil))) (db de_int))) (dw_or1 (dt_cmpM (r_in (hu200 hr)) (w_v 0) (db_gT (by rfl) c_RESERVED w_RESERVED a_RESERVED))))))
 (dss_one (ds_ret de_bl))
 dss_nil)
 (dss_one (ds_ret (de_and (de_cmpM (r_in (hu200 hr)) (de_ix (hu200 hr) (w_b 0) de_int) (db (de_gS (by rfl) c_SMALL r_SMALL))) (de_one (de_bi (r_all rfl) (by rfl) m_all boot_all (dab_cons (db (de (df_lc [("sign", 1)] [] ⟨by decide, by decide, by decide, by decide⟩ (by decide) rfl nd (di_seq (dq (w_v 0))) (blkOk_by (by kernel_rfl)) (fun _ _ _ _ _ => (w_gn 1 nd)) (fun _ _ _ _ _ => dts_nil) (fun _ _ _ _ _ => (de_or (de_cmpM (r_in (hu200 hr)) (w_v 1) (db (de_gS (by rfl) c_SMALL r_SMALL))) (de_one (de_cmpM (r_in (hu200 hr)) (w_v 1) (db (de_gS (by rfl) c_DIGITS r_DIGITS))))))))) dab_nil)))))))) ?_
  rintro ds Q hl ⟨d, rfl, hv, h⟩
  rw [show startD ["value", "sign"] ([d].map some) = [some (d), none] from rfl]
  cases d with
  | str x =>
    have hx := hv.str
    simp only [sCells, sAsg, sSeq, sIf, sSet, sRet, sRetN, sNext, sBoxPut, sPar, setAll, sExprM, mMeth, tyD, tBool, tTru, tAndM, tOrM, tNotM, m1, m2, mN, mV, mC, mCall, mBoxI, aNil, aCons, mIf, mTup, mLst, mLk, hasD, mAndV, mOrV, pNotB, aSeq, itemsS, aRng1, aRng2, aRng3, gN, gsNil, gsCons, gSt, pSetL, pLenB, isD, pSl, pSlL, oNone, oSome, pEq_int, pNe_int, pLt_int, pGt_int, pLe_int, pGe_int, mChain, aEnum, aZip, mCount, List.set_cons_zero, List.set_cons_succ, List.getElem?_cons_zero, List.getElem?_cons_succ, List.length_cons, List.length_nil, if_true, if_false, Bool.false_eq_true, true_and, and_true, decide_eq_true_eq, wipeD, tTrue, List.map_cons, List.map_nil, natD, at20, at21, at30, at31, at32, Option.some.injEq, exists_eq_left', gT_t, pAddE_i, pAddE_s, pAddE_l, pAddE_t, pAdd_i, pAddL_l, pSub_i, pMod_i, pFdiv_i, pNeg_i, pTupOf_l, pListOf_l, pListOf_t, pMin_i, pMax_i, pIs_n, pIs_b, pIsNot_n, pIsNot_b, pInt1_i, pAbs_i, qAppend_l, qExtend_l, qExtend_t, pSum_i, pAny_b, pAll_b, pRev, pRevL, pSl, pIx_t, pIx_l, pLen_map, pLen_mapT, pLen_net, pLen_t, pLen_l, pLen_s, pIn_ss, pNotIn_ss, pIn_s3, pIx_s, pIx_fu0, pIx_fu1, pIx_fu2, pIx_p0, pIx_p1, gT_fu, pEq_fu, pNe_fu, pEq_str, pNe_str, pLt_str, pGt_str, pIn_fl, pIn_ft, pNotIn_fl, pNotIn_ft, pIn_sl, pIn_st, pNotIn_sl, pNotIn_st, pIn_s2, pIx_dS, pIn_dS, pNotIn_dS, pSetK_dS, pLen_dS, pIx_dF, pIn_dF, pNotIn_dF, pSetT_dF, pLen_dF, List.length_map, slD_fu, slD_t, slD_l, slD_s, truD_i, truD_b, truD_n, truD_l, truD_t, revDt_l, revDt_t, fuD_eq, itemsS_t, itemsS_l, seqD_l, seqD_t, seqD_s, pIsa, tyN, isa_NoneType_tuple, isa_NoneType_list, isa_NoneType_bool, isa_NoneType_int, isa_NoneType_str, isa_NoneType_dict, isa_bool_tuple, isa_bool_list, isa_bool_bool, isa_bool_int, isa_bool_str, isa_bool_dict, isa_int_tuple, isa_int_list, isa_int_bool, isa_int_int, isa_int_str, isa_int_dict, isa_str_tuple, isa_str_list, isa_str_bool, isa_str_int, isa_str_str, isa_str_dict, isa_list_tuple, isa_list_list, isa_list_bool, isa_list_int, isa_list_str, isa_list_dict, isa_tuple_tuple, isa_tuple_list, isa_tuple_bool, isa_tuple_int, isa_tuple_str, isa_tuple_dict, isa_dict_tuple, isa_dict_list, isa_dict_bool, isa_dict_int, isa_dict_str, isa_dict_dict]
    unfold isNameD nameS at h
    simp only at h
    rw [if_neg (by decide)]
    refine ⟨by rw [sizeLine_eq]; omega, ?_⟩
    have fin : ∀ b : Bool, b = false → (Q (.bool b) → Q (.bool false)) := fun b e q => by rw [e] at q; exact q
    by_cases c1 : (1 : Int) ≤ x.length
    · rw [if_pos c1]
      by_cases c2 : (x.length : Int) ≤ 8
      · rw [if_neg (by simp [c2])]
        by_cases c3 : x ∈ (["all", "any", "none"] : List Str)
        · rw [if_pos c3]; exact fin _ (by simp [c3]) h
        · rw [if_neg c3]
          have hl : x.length = x.cps.toList.length := by rw [Array.length_toList]; rfl
          cases e : x.cps.toList with
          | nil => rw [e] at hl; simp at hl; omega
          | cons c cs =>
            rw [e] at h
            refine ⟨c, by rw [sizeLine_eq]; omega, rfl, ?_⟩
            by_cases c4 : inS ⟨#[c]⟩ "abcdefghijklmnopqrstuvwxyz" = true
            · rw [if_pos c4]
              refine mLc_map x.cps.toList (fun c => .str ⟨#[c]⟩) (fun c => .bool (charD ⟨#[c]⟩)) (fun R hR => ?_) (by rw [← hl, sizeLine_eq]; omega) (fun c hc P N hp => ?_) ?_
              · simp only [sCells, sAsg, sSeq, sIf, sSet, sRet, sRetN, sNext, sBoxPut, sPar, setAll, sExprM, mMeth, tyD, tBool, tTru, tAndM, tOrM, tNotM, m1, m2, mN, mV, mC, mCall, mBoxI, aNil, aCons, mIf, mTup, mLst, mLk, hasD, mAndV, mOrV, pNotB, aSeq, itemsS, aRng1, aRng2, aRng3, gN, gsNil, gsCons, gSt, pSetL, pLenB, isD, pSl, pSlL, oNone, oSome, pEq_int, pNe_int, pLt_int, pGt_int, pLe_int, pGe_int, mChain, aEnum, aZip, mCount, List.set_cons_zero, List.set_cons_succ, List.getElem?_cons_zero, List.getElem?_cons_succ, List.length_cons, List.length_nil, if_true, if_false, Bool.false_eq_true, true_and, and_true, decide_eq_true_eq, wipeD, tTrue, List.map_cons, List.map_nil, natD, at20, at21, at30, at31, at32, Option.some.injEq, exists_eq_left', gT_t, pAddE_i, pAddE_s, pAddE_l, pAddE_t, pAdd_i, pAddL_l, pSub_i, pMod_i, pFdiv_i, pNeg_i, pTupOf_l, pListOf_l, pListOf_t, pMin_i, pMax_i, pIs_n, pIs_b, pIsNot_n, pIsNot_b, pInt1_i, pAbs_i, qAppend_l, qExtend_l, qExtend_t, pSum_i, pAny_b, pAll_b, pRev, pRevL, pSl, pIx_t, pIx_l, pLen_map, pLen_mapT, pLen_net, pLen_t, pLen_l, pLen_s, pIn_ss, pNotIn_ss, pIn_s3, pIx_s, pIx_fu0, pIx_fu1, pIx_fu2, pIx_p0, pIx_p1, gT_fu, pEq_fu, pNe_fu, pEq_str, pNe_str, pLt_str, pGt_str, pIn_fl, pIn_ft, pNotIn_fl, pNotIn_ft, pIn_sl, pIn_st, pNotIn_sl, pNotIn_st, pIn_s2, pIx_dS, pIn_dS, pNotIn_dS, pSetK_dS, pLen_dS, pIx_dF, pIn_dF, pNotIn_dF, pSetT_dF, pLen_dF, List.length_map, slD_fu, slD_t, slD_l, slD_s, truD_i, truD_b, truD_n, truD_l, truD_t, revDt_l, revDt_t, fuD_eq, itemsS_t, itemsS_l, seqD_l, seqD_t, seqD_s]; exact hR
              · simp only [sCells, sAsg, sSeq, sIf, sSet, sRet, sRetN, sNext, sBoxPut, sPar, setAll, sExprM, mMeth, tyD, tBool, tTru, tAndM, tOrM, tNotM, m1, m2, mN, mV, mC, mCall, mBoxI, aNil, aCons, mIf, mTup, mLst, mLk, hasD, mAndV, mOrV, pNotB, aSeq, itemsS, aRng1, aRng2, aRng3, gN, gsNil, gsCons, gSt, pSetL, pLenB, isD, pSl, pSlL, oNone, oSome, pEq_int, pNe_int, pLt_int, pGt_int, pLe_int, pGe_int, mChain, aEnum, aZip, mCount, List.set_cons_zero, List.set_cons_succ, List.getElem?_cons_zero, List.getElem?_cons_succ, List.length_cons, List.length_nil, if_true, if_false, Bool.false_eq_true, true_and, and_true, decide_eq_true_eq, wipeD, tTrue, List.map_cons, List.map_nil, natD, at20, at21, at30, at31, at32, Option.some.injEq, exists_eq_left', gT_t, pAddE_i, pAddE_s, pAddE_l, pAddE_t, pAdd_i, pAddL_l, pSub_i, pMod_i, pFdiv_i, pNeg_i, pTupOf_l, pListOf_l, pListOf_t, pMin_i, pMax_i, pIs_n, pIs_b, pIsNot_n, pIsNot_b, pInt1_i, pAbs_i, qAppend_l, qExtend_l, qExtend_t, pSum_i, pAny_b, pAll_b, pRev, pRevL, pSl, pIx_t, pIx_l, pLen_map, pLen_mapT, pLen_net, pLen_t, pLen_l, pLen_s, pIn_ss, pNotIn_ss, pIn_s3, pIx_s, pIx_fu0, pIx_fu1, pIx_fu2, pIx_p0, pIx_p1, gT_fu, pEq_fu, pNe_fu, pEq_str, pNe_str, pLt_str, pGt_str, pIn_fl, pIn_ft, pNotIn_fl, pNotIn_ft, pIn_sl, pIn_st, pNotIn_sl, pNotIn_st, pIn_s2, pIx_dS, pIn_dS, pNotIn_dS, pSetK_dS, pLen_dS, pIx_dF, pIn_dF, pNotIn_dF, pSetT_dF, pLen_dF, List.length_map, slD_fu, slD_t, slD_l, slD_s, truD_i, truD_b, truD_n, truD_l, truD_t, revDt_l, revDt_t, fuD_eq, itemsS_t, itemsS_l, seqD_l, seqD_t, seqD_s]
                unfold charD at hp
                by_cases c5 : inS ⟨#[c]⟩ "abcdefghijklmnopqrstuvwxyz" = true
                · rw [c5] at hp ⊢; exact hp
                · simp only [c5, Bool.false_eq_true, if_false, Bool.or_eq_true, Bool.false_or] at hp ⊢; exact hp
              · rw [pAll_f]
                rw [e]
                simpa [c1, c2, c3, c4] using h
            · rw [if_neg c4]; exact fin _ (by simp [c4]) h
      · rw [if_pos (by simp [c2])]; exact fin _ (by simp [c2]) h
    · rw [if_neg c1, if_pos (by decide)]; exact fin _ (by simp [c1]) h
  | dict => exact absurd hv.pl (by simp [PyData.plain])
  | _ => simp only [sCells, sAsg, sSeq, sIf, sSet, sRet, sRetN, sNext, sBoxPut, sPar, setAll, sExprM, mMeth, tyD, tBool, tTru, tAndM, tOrM, tNotM, m1, m2, mN, mV, mC, mCall, mBoxI, aNil, aCons, mIf, mTup, mLst, mLk, hasD, mAndV, mOrV, pNotB, aSeq, itemsS, aRng1, aRng2, aRng3, gN, gsNil, gsCons, gSt, pSetL, pLenB, isD, pSl, pSlL, oNone, oSome, pEq_int, pNe_int, pLt_int, pGt_int, pLe_int, pGe_int, mChain, aEnum, aZip, mCount, List.set_cons_zero, List.set_cons_succ, List.getElem?_cons_zero, List.getElem?_cons_succ, List.length_cons, List.length_nil, if_true, if_false, Bool.false_eq_true, true_and, and_true, decide_eq_true_eq, wipeD, tTrue, List.map_cons, List.map_nil, natD, at20, at21, at30, at31, at32, Option.some.injEq, exists_eq_left', gT_t, pAddE_i, pAddE_s, pAddE_l, pAddE_t, pAdd_i, pAddL_l, pSub_i, pMod_i, pFdiv_i, pNeg_i, pTupOf_l, pListOf_l, pListOf_t, pMin_i, pMax_i, pIs_n, pIs_b, pIsNot_n, pIsNot_b, pInt1_i, pAbs_i, qAppend_l, qExtend_l, qExtend_t, pSum_i, pAny_b, pAll_b, pRev, pRevL, pSl, pIx_t, pIx_l, pLen_map, pLen_mapT, pLen_net, pLen_t, pLen_l, pLen_s, pIn_ss, pNotIn_ss, pIn_s3, pIx_s, pIx_fu0, pIx_fu1, pIx_fu2, pIx_p0, pIx_p1, gT_fu, pEq_fu, pNe_fu, pEq_str, pNe_str, pLt_str, pGt_str, pIn_fl, pIn_ft, pNotIn_fl, pNotIn_ft, pIn_sl, pIn_st, pNotIn_sl, pNotIn_st, pIn_s2, pIx_dS, pIn_dS, pNotIn_dS, pSetK_dS, pLen_dS, pIx_dF, pIn_dF, pNotIn_dF, pSetT_dF, pLen_dF, List.length_map, slD_fu, slD_t, slD_l, slD_s, truD_i, truD_b, truD_n, truD_l, truD_t, revDt_l, revDt_t, fuD_eq, itemsS_t, itemsS_l, seqD_l, seqD_t, seqD_s, pIsa, tyN, isa_NoneType_tuple, isa_NoneType_list, isa_NoneType_bool, isa_NoneType_int, isa_NoneType_str, isa_NoneType_dict, isa_bool_tuple, isa_bool_list, isa_bool_bool, isa_bool_int, isa_bool_str, isa_bool_dict, isa_int_tuple, isa_int_list, isa_int_bool, isa_int_int, isa_int_str, isa_int_dict, isa_str_tuple, isa_str_list, isa_str_bool, isa_str_int, isa_str_str, isa_str_dict, isa_list_tuple, isa_list_list, isa_list_bool, isa_list_int, isa_list_str, isa_list_dict, isa_tuple_tuple, isa_tuple_list, isa_tuple_bool, isa_tuple_int, isa_tuple_str, isa_tuple_dict, isa_dict_tuple, isa_dict_list, isa_dict_bool, isa_dict_int, isa_dict_str, isa_dict_dict]; exact h
theorem ok_is_number {f : Addr} {fd : FuncData} (F : Fun K "is_number" "is_number" s_is_number f fd) (m_bool : mg "bool" = none) (m_int : mg "int" = none) (m_isinstance : mg "isinstance" = none) : FnOk P w K mg base CX0 1 f fd ["value", "least", "most"] (spD K 3 q_is_number) := by
  have nd := sc_is_number.nd
  refine fnD (φ := q_is_number) F sc_is_number i_is_number rfl rfl (by decide) (fun cdv A outer s H E hr => (dss_one (ds_ret (de_and (de_isa (N := "int") (by decide) (w_b 0) (by rfl) m_isinstance (by rfl) m_int boot_int) (de_and (de_not (de_isa (N := "bool") (by decide) (w_b 0) (by rfl) m_isinstance (by rfl) m_bool boot_bool)) (de_one (de_chain (r_le (hu200 hr)) (r_le (hu200 hr)) (w_b 1) (w_b 0) (w_b 2)))))))) ?_
  rintro ds Q hl ⟨d, lo, hi, rfl, hp, h⟩
  rw [show startD ["value", "least", "most"] ([d, .int lo, .int hi].map some) = [some (d), some (.int lo), some (.int hi)] from rfl]
  cases d with
  | dict => exact absurd hp (by simp [PyData.plain])
  | int i =>
    simp only [sCells, sAsg, sSeq, sIf, sSet, sRet, sRetN, sNext, sBoxPut, sPar, setAll, sExprM, mMeth, tyD, tBool, tTru, tAndM, tOrM, tNotM, m1, m2, mN, mV, mC, mCall, mBoxI, aNil, aCons, mIf, mTup, mLst, mLk, hasD, mAndV, mOrV, pNotB, aSeq, itemsS, aRng1, aRng2, aRng3, gN, gsNil, gsCons, gSt, pSetL, pLenB, isD, pSl, pSlL, oNone, oSome, pEq_int, pNe_int, pLt_int, pGt_int, pLe_int, pGe_int, mChain, aEnum, aZip, mCount, List.set_cons_zero, List.set_cons_succ, List.getElem?_cons_zero, List.getElem?_cons_succ, List.length_cons, List.length_nil, if_true, if_false, Bool.false_eq_true, true_and, and_true, decide_eq_true_eq, wipeD, tTrue, List.map_cons, List.map_nil, natD, at20, at21, at30, at31, at32, Option.some.injEq, exists_eq_left', gT_t, pAddE_i, pAddE_s, pAddE_l, pAddE_t, pAdd_i, pAddL_l, pSub_i, pMod_i, pFdiv_i, pNeg_i, pTupOf_l, pListOf_l, pListOf_t, pMin_i, pMax_i, pIs_n, pIs_b, pIsNot_n, pIsNot_b, pInt1_i, pAbs_i, qAppend_l, qExtend_l, qExtend_t, pSum_i, pAny_b, pAll_b, pRev, pRevL, pSl, pIx_t, pIx_l, pLen_map, pLen_mapT, pLen_net, pLen_t, pLen_l, pLen_s, pIn_ss, pNotIn_ss, pIn_s3, pIx_s, pIx_fu0, pIx_fu1, pIx_fu2, pIx_p0, pIx_p1, gT_fu, pEq_fu, pNe_fu, pEq_str, pNe_str, pLt_str, pGt_str, pIn_fl, pIn_ft, pNotIn_fl, pNotIn_ft, pIn_sl, pIn_st, pNotIn_sl, pNotIn_st, pIn_s2, pIx_dS, pIn_dS, pNotIn_dS, pSetK_dS, pLen_dS, pIx_dF, pIn_dF, pNotIn_dF, pSetT_dF, pLen_dF, List.length_map, slD_fu, slD_t, slD_l, slD_s, truD_i, truD_b, truD_n, truD_l, truD_t, revDt_l, revDt_t, fuD_eq, itemsS_t, itemsS_l, seqD_l, seqD_t, seqD_s, pIsa, tyN, isa_NoneType_tuple, isa_NoneType_list, isa_NoneType_bool, isa_NoneType_int, isa_NoneType_str, isa_NoneType_dict, isa_bool_tuple, isa_bool_list, isa_bool_bool, isa_bool_int, isa_bool_str, isa_bool_dict, isa_int_tuple, isa_int_list, isa_int_bool, isa_int_int, isa_int_str, isa_int_dict, isa_str_tuple, isa_str_list, isa_str_bool, isa_str_int, isa_str_str, isa_str_dict, isa_list_tuple, isa_list_list, isa_list_bool, isa_list_int, isa_list_str, isa_list_dict, isa_tuple_tuple, isa_tuple_list, isa_tuple_bool, isa_tuple_int, isa_tuple_str, isa_tuple_dict, isa_dict_tuple, isa_dict_list, isa_dict_bool, isa_dict_int, isa_dict_str, isa_dict_dict]
    rw [if_pos (by decide)]
    have h : Q (.bool (decide (lo ≤ i) && decide (i ≤ hi))) := h
    by_cases c : lo ≤ i
    · rw [if_pos c]; rw [decide_eq_true c] at h; exact h
    · rw [if_neg c]; rw [decide_eq_false c] at h; exact h
  | _ =>
    simp only [sCells, sAsg, sSeq, sIf, sSet, sRet, sRetN, sNext, sBoxPut, sPar, setAll, sExprM, mMeth, tyD, tBool, tTru, tAndM, tOrM, tNotM, m1, m2, mN, mV, mC, mCall, mBoxI, aNil, aCons, mIf, mTup, mLst, mLk, hasD, mAndV, mOrV, pNotB, aSeq, itemsS, aRng1, aRng2, aRng3, gN, gsNil, gsCons, gSt, pSetL, pLenB, isD, pSl, pSlL, oNone, oSome, pEq_int, pNe_int, pLt_int, pGt_int, pLe_int, pGe_int, mChain, aEnum, aZip, mCount, List.set_cons_zero, List.set_cons_succ, List.getElem?_cons_zero, List.getElem?_cons_succ, List.length_cons, List.length_nil, if_true, if_false, Bool.false_eq_true, true_and, and_true, decide_eq_true_eq, wipeD, tTrue, List.map_cons, List.map_nil, natD, at20, at21, at30, at31, at32, Option.some.injEq, exists_eq_left', gT_t, pAddE_i, pAddE_s, pAddE_l, pAddE_t, pAdd_i, pAddL_l, pSub_i, pMod_i, pFdiv_i, pNeg_i, pTupOf_l, pListOf_l, pListOf_t, pMin_i, pMax_i, pIs_n, pIs_b, pIsNot_n, pIsNot_b, pInt1_i, pAbs_i, qAppend_l, qExtend_l, qExtend_t, pSum_i, pAny_b, pAll_b, pRev, pRevL, pSl, pIx_t, pIx_l, pLen_map, pLen_mapT, pLen_net, pLen_t, pLen_l, pLen_s, pIn_ss, pNotIn_ss, pIn_s3, pIx_s, pIx_fu0, pIx_fu1, pIx_fu2, pIx_p0, pIx_p1, gT_fu, pEq_fu, pNe_fu, pEq_str, pNe_str, pLt_str, pGt_str, pIn_fl, pIn_ft, pNotIn_fl, pNotIn_ft, pIn_sl, pIn_st, pNotIn_sl, pNotIn_st, pIn_s2, pIx_dS, pIn_dS, pNotIn_dS, pSetK_dS, pLen_dS, pIx_dF, pIn_dF, pNotIn_dF, pSetT_dF, pLen_dF, List.length_map, slD_fu, slD_t, slD_l, slD_s, truD_i, truD_b, truD_n, truD_l, truD_t, revDt_l, revDt_t, fuD_eq, itemsS_t, itemsS_l, seqD_l, seqD_t, seqD_s, pIsa, tyN, isa_NoneType_tuple, isa_NoneType_list, isa_NoneType_bool, isa_NoneType_int, isa_NoneType_str, isa_NoneType_dict, isa_bool_tuple, isa_bool_list, isa_bool_bool, isa_bool_int, isa_bool_str, isa_bool_dict, isa_int_tuple, isa_int_list, isa_int_bool, isa_int_int, isa_int_str, isa_int_dict, isa_str_tuple, isa_str_list, isa_str_bool, isa_str_int, isa_str_str, isa_str_dict, isa_list_tuple, isa_list_list, isa_list_bool, isa_list_int, isa_list_str, isa_list_dict, isa_tuple_tuple, isa_tuple_list, isa_tuple_bool, isa_tuple_int, isa_tuple_str, isa_tuple_dict, isa_dict_tuple, isa_dict_list, isa_dict_bool, isa_dict_int, isa_dict_str, isa_dict_dict]
    first | exact h | (rw [if_neg (by decide)]; exact h)
theorem ok_is_ascending {f : Addr} {fd : FuncData} (F : Fun K "is_ascending" "is_ascending" s_is_ascending f fd) (m_all : mg "all" = none) (m_len : mg "len" = none) (m_range : mg "range" = none) : FnOk P w K mg base CX0 1 f fd ["rows"] (spD K 1 q_is_ascending) := by
  have nd := sc_is_ascending.nd
  refine fnD (φ := q_is_ascending) F sc_is_ascending i_is_ascending rfl rfl (by decide) (fun cdv A outer s H E hr => (dss_one (ds_ret (de_bi (r_all rfl) (by rfl) m_all boot_all (dab_cons (db (de (df_lc [("k", 1)] [] ⟨by decide, by decide, by decide, by decide⟩ (by decide) rfl nd (di_range1 (by rfl) m_range (dae_cons (de_bin r_sub (db (de_bi r_len (by rfl) m_len boot_len (dab_cons (w_b 0) dab_nil))) (db de_int)) dae_nil)) (blkOk_by (by kernel_rfl)) (fun _ _ _ _ _ => (w_gn 1 nd)) (fun _ _ _ _ _ => dts_nil) (fun _ _ _ _ _ => (de_cmp (r_lt (hu200 hr)) (db (de_ix (hu200 hr) (w_b 0) (w_v 1))) (db (de_ix (hu200 hr) (w_b 0) (de_binE r_addE (w_v 1) de_int)))))))) dab_nil))))) ?_
  rintro ds Q hl ⟨xs, hd, hn, hok, h⟩
  have key : ∀ d : D, (d = .list xs ∨ d = .tuple xs) → mLc [1] (aRng1 (aCons (m2 (fun {d e} {Qd} => pSub d e Qd) (mN (fun {ds} {Qd} => pLen ds Qd) (aCons (mV 0) aNil)) (mC (.int 1))) aNil)) (gN 1) tTrue (m2 (fun {d e} {Qd} => pLt d e Qd) (m2 pIx (mV 0) (mV 1)) (m2 pIx (mV 0) (m2 (fun {d e} {Qd} => pAddE d e Qd) (mV 1) (mC (.int 1))))) [some d, none] (fun d => pAll [d] Q) := by
    intro d hd
    refine mLc_rngm 0 ((xs.length : Int) - 1) (fun k => .bool (PySem.W.dataLt (xs.getD k .none) (xs.getD (k + 1) .none))) (fun R hR => ?_) (by omega) (fun k hk P N hp => ?_) ?_
    · rcases hd with rfl | rfl <;> (simp only [sCells, sAsg, sSeq, sIf, sSet, sRet, sRetN, sNext, sBoxPut, sPar, setAll, sExprM, mMeth, tyD, tBool, tTru, tAndM, tOrM, tNotM, m1, m2, mN, mV, mC, mCall, mBoxI, aNil, aCons, mIf, mTup, mLst, mLk, hasD, mAndV, mOrV, pNotB, aSeq, itemsS, aRng1, aRng2, aRng3, gN, gsNil, gsCons, gSt, pSetL, pLenB, isD, pSl, pSlL, oNone, oSome, pEq_int, pNe_int, pLt_int, pGt_int, pLe_int, pGe_int, mChain, aEnum, aZip, mCount, List.set_cons_zero, List.set_cons_succ, List.getElem?_cons_zero, List.getElem?_cons_succ, List.length_cons, List.length_nil, if_true, if_false, Bool.false_eq_true, true_and, and_true, decide_eq_true_eq, wipeD, tTrue, List.map_cons, List.map_nil, natD, at20, at21, at30, at31, at32, Option.some.injEq, exists_eq_left', gT_t, pAddE_i, pAddE_s, pAddE_l, pAddE_t, pAdd_i, pAddL_l, pSub_i, pMod_i, pFdiv_i, pNeg_i, pTupOf_l, pListOf_l, pListOf_t, pMin_i, pMax_i, pIs_n, pIs_b, pIsNot_n, pIsNot_b, pInt1_i, pAbs_i, qAppend_l, qExtend_l, qExtend_t, pSum_i, pAny_b, pAll_b, pRev, pRevL, pSl, pIx_t, pIx_l, pLen_map, pLen_mapT, pLen_net, pLen_t, pLen_l, pLen_s, pIn_ss, pNotIn_ss, pIn_s3, pIx_s, pIx_fu0, pIx_fu1, pIx_fu2, pIx_p0, pIx_p1, gT_fu, pEq_fu, pNe_fu, pEq_str, pNe_str, pLt_str, pGt_str, pIn_fl, pIn_ft, pNotIn_fl, pNotIn_ft, pIn_sl, pIn_st, pNotIn_sl, pNotIn_st, pIn_s2, pIx_dS, pIn_dS, pNotIn_dS, pSetK_dS, pLen_dS, pIx_dF, pIn_dF, pNotIn_dF, pSetT_dF, pLen_dF, List.length_map, slD_fu, slD_t, slD_l, slD_s, truD_i, truD_b, truD_n, truD_l, truD_t, revDt_l, revDt_t, fuD_eq, itemsS_t, itemsS_l, seqD_l, seqD_t, seqD_s]; exact ⟨rngOk_of (by omega) (by omega), hR⟩)
    · have h1 : xs[k]? = some (xs.getD k .none) := by rw [List.getD_eq_getElem?_getD, List.getElem?_eq_getElem (by omega)]; rfl
      have h2 : xs[k + 1]? = some (xs.getD (k + 1) .none) := by rw [List.getD_eq_getElem?_getD, List.getElem?_eq_getElem (by omega)]; rfl
      have a1 : atD xs (0 + (k : Int)) = some (xs.getD k .none) := by rw [atD_nat (by omega), show (0 + (k : Int)).toNat = k by omega]; exact h1
      have a2 : atD xs (0 + (k : Int) + 1) = some (xs.getD (k + 1) .none) := by rw [atD_nat (by omega), show (0 + (k : Int) + 1).toNat = k + 1 by omega]; exact h2
      rcases hd with rfl | rfl <;> (simp only [sCells, sAsg, sSeq, sIf, sSet, sRet, sRetN, sNext, sBoxPut, sPar, setAll, sExprM, mMeth, tyD, tBool, tTru, tAndM, tOrM, tNotM, m1, m2, mN, mV, mC, mCall, mBoxI, aNil, aCons, mIf, mTup, mLst, mLk, hasD, mAndV, mOrV, pNotB, aSeq, itemsS, aRng1, aRng2, aRng3, gN, gsNil, gsCons, gSt, pSetL, pLenB, isD, pSl, pSlL, oNone, oSome, pEq_int, pNe_int, pLt_int, pGt_int, pLe_int, pGe_int, mChain, aEnum, aZip, mCount, List.set_cons_zero, List.set_cons_succ, List.getElem?_cons_zero, List.getElem?_cons_succ, List.length_cons, List.length_nil, if_true, if_false, Bool.false_eq_true, true_and, and_true, decide_eq_true_eq, wipeD, tTrue, List.map_cons, List.map_nil, natD, at20, at21, at30, at31, at32, Option.some.injEq, exists_eq_left', gT_t, pAddE_i, pAddE_s, pAddE_l, pAddE_t, pAdd_i, pAddL_l, pSub_i, pMod_i, pFdiv_i, pNeg_i, pTupOf_l, pListOf_l, pListOf_t, pMin_i, pMax_i, pIs_n, pIs_b, pIsNot_n, pIsNot_b, pInt1_i, pAbs_i, qAppend_l, qExtend_l, qExtend_t, pSum_i, pAny_b, pAll_b, pRev, pRevL, pSl, pIx_t, pIx_l, pLen_map, pLen_mapT, pLen_net, pLen_t, pLen_l, pLen_s, pIn_ss, pNotIn_ss, pIn_s3, pIx_s, pIx_fu0, pIx_fu1, pIx_fu2, pIx_p0, pIx_p1, gT_fu, pEq_fu, pNe_fu, pEq_str, pNe_str, pLt_str, pGt_str, pIn_fl, pIn_ft, pNotIn_fl, pNotIn_ft, pIn_sl, pIn_st, pNotIn_sl, pNotIn_st, pIn_s2, pIx_dS, pIn_dS, pNotIn_dS, pSetK_dS, pLen_dS, pIx_dF, pIn_dF, pNotIn_dF, pSetT_dF, pLen_dF, List.length_map, slD_fu, slD_t, slD_l, slD_s, truD_i, truD_b, truD_n, truD_l, truD_t, revDt_l, revDt_t, fuD_eq, itemsS_t, itemsS_l, seqD_l, seqD_t, seqD_s]; exact ⟨_, a1, _, a2, hok k (by omega), hp⟩)
    · rw [show ((xs.length : Int) - 1 - 0).toNat = xs.length - 1 by omega, pAll_f, ← ascD_at]
      exact h
  rcases hd with rfl | rfl
  · rw [show startD ["rows", "k"] ([.list xs].map some) = [some (.list xs), none] from rfl]
    simp only [sCells, sAsg, sSeq, sIf, sSet, sRet, sRetN, sNext, sBoxPut, sPar, setAll, sExprM, mMeth, tyD, tBool, tTru, tAndM, tOrM, tNotM, m1, m2, mN, mV, mC, mCall, mBoxI, aNil, aCons, mIf, mTup, mLst, mLk, hasD, mAndV, mOrV, pNotB, aSeq, itemsS, aRng1, aRng2, aRng3, gN, gsNil, gsCons, gSt, pSetL, pLenB, isD, pSl, pSlL, oNone, oSome, pEq_int, pNe_int, pLt_int, pGt_int, pLe_int, pGe_int, mChain, aEnum, aZip, mCount, List.set_cons_zero, List.set_cons_succ, List.getElem?_cons_zero, List.getElem?_cons_succ, List.length_cons, List.length_nil, if_true, if_false, Bool.false_eq_true, true_and, and_true, decide_eq_true_eq, wipeD, tTrue, List.map_cons, List.map_nil, natD, at20, at21, at30, at31, at32, Option.some.injEq, exists_eq_left', gT_t, pAddE_i, pAddE_s, pAddE_l, pAddE_t, pAdd_i, pAddL_l, pSub_i, pMod_i, pFdiv_i, pNeg_i, pTupOf_l, pListOf_l, pListOf_t, pMin_i, pMax_i, pIs_n, pIs_b, pIsNot_n, pIsNot_b, pInt1_i, pAbs_i, qAppend_l, qExtend_l, qExtend_t, pSum_i, pAny_b, pAll_b, pRev, pRevL, pSl, pIx_t, pIx_l, pLen_map, pLen_mapT, pLen_net, pLen_t, pLen_l, pLen_s, pIn_ss, pNotIn_ss, pIn_s3, pIx_s, pIx_fu0, pIx_fu1, pIx_fu2, pIx_p0, pIx_p1, gT_fu, pEq_fu, pNe_fu, pEq_str, pNe_str, pLt_str, pGt_str, pIn_fl, pIn_ft, pNotIn_fl, pNotIn_ft, pIn_sl, pIn_st, pNotIn_sl, pNotIn_st, pIn_s2, pIx_dS, pIn_dS, pNotIn_dS, pSetK_dS, pLen_dS, pIx_dF, pIn_dF, pNotIn_dF, pSetT_dF, pLen_dF, List.length_map, slD_fu, slD_t, slD_l, slD_s, truD_i, truD_b, truD_n, truD_l, truD_t, revDt_l, revDt_t, fuD_eq, itemsS_t, itemsS_l, seqD_l, seqD_t, seqD_s]
    exact key _ (.inl rfl)
  · rw [show startD ["rows", "k"] ([.tuple xs].map some) = [some (.tuple xs), none] from rfl]
    simp only [sCells, sAsg, sSeq, sIf, sSet, sRet, sRetN, sNext, sBoxPut, sPar, setAll, sExprM, mMeth, tyD, tBool, tTru, tAndM, tOrM, tNotM, m1, m2, mN, mV, mC, mCall, mBoxI, aNil, aCons, mIf, mTup, mLst, mLk, hasD, mAndV, mOrV, pNotB, aSeq, itemsS, aRng1, aRng2, aRng3, gN, gsNil, gsCons, gSt, pSetL, pLenB, isD, pSl, pSlL, oNone, oSome, pEq_int, pNe_int, pLt_int, pGt_int, pLe_int, pGe_int, mChain, aEnum, aZip, mCount, List.set_cons_zero, List.set_cons_succ, List.getElem?_cons_zero, List.getElem?_cons_succ, List.length_cons, List.length_nil, if_true, if_false, Bool.false_eq_true, true_and, and_true, decide_eq_true_eq, wipeD, tTrue, List.map_cons, List.map_nil, natD, at20, at21, at30, at31, at32, Option.some.injEq, exists_eq_left', gT_t, pAddE_i, pAddE_s, pAddE_l, pAddE_t, pAdd_i, pAddL_l, pSub_i, pMod_i, pFdiv_i, pNeg_i, pTupOf_l, pListOf_l, pListOf_t, pMin_i, pMax_i, pIs_n, pIs_b, pIsNot_n, pIsNot_b, pInt1_i, pAbs_i, qAppend_l, qExtend_l, qExtend_t, pSum_i, pAny_b, pAll_b, pRev, pRevL, pSl, pIx_t, pIx_l, pLen_map, pLen_mapT, pLen_net, pLen_t, pLen_l, pLen_s, pIn_ss, pNotIn_ss, pIn_s3, pIx_s, pIx_fu0, pIx_fu1, pIx_fu2, pIx_p0, pIx_p1, gT_fu, pEq_fu, pNe_fu, pEq_str, pNe_str, pLt_str, pGt_str, pIn_fl, pIn_ft, pNotIn_fl, pNotIn_ft, pIn_sl, pIn_st, pNotIn_sl, pNotIn_st, pIn_s2, pIx_dS, pIn_dS, pNotIn_dS, pSetK_dS, pLen_dS, pIx_dF, pIn_dF, pNotIn_dF, pSetT_dF, pLen_dF, List.length_map, slD_fu, slD_t, slD_l, slD_s, truD_i, truD_b, truD_n, truD_l, truD_t, revDt_l, revDt_t, fuD_eq, itemsS_t, itemsS_l, seqD_l, seqD_t, seqD_s]
    exact key _ (.inr rfl)
theorem ok_fuses_at {f : Addr} {fd : FuncData} (F : Fun K "fuses_at" "fuses_at" s_fuses_at f fd)  : FnOk P w K mg base CX0 1 f fd ["net", "knot"] (spD K 2 q_fuses_at) := by
  have nd := sc_fuses_at.nd
  refine fnD (φ := q_fuses_at) F sc_fuses_at i_fuses_at rfl rfl (by decide) (fun cdv A outer s H E hr => (dss_one (ds_ret (de (df_lc [("fuse", 2)] [] ⟨by decide, by decide, by decide, by decide⟩ (by decide) rfl nd (di_seq (dq (w_v 0))) (blkOk_by (by kernel_rfl)) (fun _ _ _ _ _ => (w_gn 2 nd)) (fun _ _ _ _ _ => (dts_one (dt_cmpM (r_in (hu200 hr)) (w_v 1) (db (de_sl (w_v 2) do_none (do_some de_int)))))) (fun _ _ _ _ _ => (w_v 2))))))) ?_
  rintro ds Q hl ⟨net, k, rfl, hn, h⟩
  rw [show startD ["net", "knot", "fuse"] ([netD net, .str k].map some) = [some (netD net), some (.str k), none] from rfl]
  simp only [sCells, sAsg, sSeq, sIf, sSet, sRet, sRetN, sNext, sBoxPut, sPar, setAll, sExprM, mMeth, tyD, tBool, tTru, tAndM, tOrM, tNotM, m1, m2, mN, mV, mC, mCall, mBoxI, aNil, aCons, mIf, mTup, mLst, mLk, hasD, mAndV, mOrV, pNotB, aSeq, itemsS, aRng1, aRng2, aRng3, gN, gsNil, gsCons, gSt, pSetL, pLenB, isD, pSl, pSlL, oNone, oSome, pEq_int, pNe_int, pLt_int, pGt_int, pLe_int, pGe_int, mChain, aEnum, aZip, mCount, List.set_cons_zero, List.set_cons_succ, List.getElem?_cons_zero, List.getElem?_cons_succ, List.length_cons, List.length_nil, if_true, if_false, Bool.false_eq_true, true_and, and_true, decide_eq_true_eq, wipeD, tTrue, List.map_cons, List.map_nil, natD, at20, at21, at30, at31, at32, Option.some.injEq, exists_eq_left', gT_t, pAddE_i, pAddE_s, pAddE_l, pAddE_t, pAdd_i, pAddL_l, pSub_i, pMod_i, pFdiv_i, pNeg_i, pTupOf_l, pListOf_l, pListOf_t, pMin_i, pMax_i, pIs_n, pIs_b, pIsNot_n, pIsNot_b, pInt1_i, pAbs_i, qAppend_l, qExtend_l, qExtend_t, pSum_i, pAny_b, pAll_b, pRev, pRevL, pSl, pIx_t, pIx_l, pLen_map, pLen_mapT, pLen_net, pLen_t, pLen_l, pLen_s, pIn_ss, pNotIn_ss, pIn_s3, pIx_s, pIx_fu0, pIx_fu1, pIx_fu2, pIx_p0, pIx_p1, gT_fu, pEq_fu, pNe_fu, pEq_str, pNe_str, pLt_str, pGt_str, pIn_fl, pIn_ft, pNotIn_fl, pNotIn_ft, pIn_sl, pIn_st, pNotIn_sl, pNotIn_st, pIn_s2, pIx_dS, pIn_dS, pNotIn_dS, pSetK_dS, pLen_dS, pIx_dF, pIn_dF, pNotIn_dF, pSetT_dF, pLen_dF, List.length_map, slD_fu, slD_t, slD_l, slD_s, truD_i, truD_b, truD_n, truD_l, truD_t, revDt_l, revDt_t, fuD_eq, itemsS_t, itemsS_l, seqD_l, seqD_t, seqD_s]
  refine mLc_filter net fuD fuD (fun f => decide (k = f.a ∨ k = f.b)) (fun R hR => ?_) (by rw [sizeLine_eq]; omega) (fun f hf P N hp hn => ?_) h
  · simp only [sCells, sAsg, sSeq, sIf, sSet, sRet, sRetN, sNext, sBoxPut, sPar, setAll, sExprM, mMeth, tyD, tBool, tTru, tAndM, tOrM, tNotM, m1, m2, mN, mV, mC, mCall, mBoxI, aNil, aCons, mIf, mTup, mLst, mLk, hasD, mAndV, mOrV, pNotB, aSeq, itemsS, aRng1, aRng2, aRng3, gN, gsNil, gsCons, gSt, pSetL, pLenB, isD, pSl, pSlL, oNone, oSome, pEq_int, pNe_int, pLt_int, pGt_int, pLe_int, pGe_int, mChain, aEnum, aZip, mCount, List.set_cons_zero, List.set_cons_succ, List.getElem?_cons_zero, List.getElem?_cons_succ, List.length_cons, List.length_nil, if_true, if_false, Bool.false_eq_true, true_and, and_true, decide_eq_true_eq, wipeD, tTrue, List.map_cons, List.map_nil, natD, at20, at21, at30, at31, at32, Option.some.injEq, exists_eq_left', gT_t, pAddE_i, pAddE_s, pAddE_l, pAddE_t, pAdd_i, pAddL_l, pSub_i, pMod_i, pFdiv_i, pNeg_i, pTupOf_l, pListOf_l, pListOf_t, pMin_i, pMax_i, pIs_n, pIs_b, pIsNot_n, pIsNot_b, pInt1_i, pAbs_i, qAppend_l, qExtend_l, qExtend_t, pSum_i, pAny_b, pAll_b, pRev, pRevL, pSl, pIx_t, pIx_l, pLen_map, pLen_mapT, pLen_net, pLen_t, pLen_l, pLen_s, pIn_ss, pNotIn_ss, pIn_s3, pIx_s, pIx_fu0, pIx_fu1, pIx_fu2, pIx_p0, pIx_p1, gT_fu, pEq_fu, pNe_fu, pEq_str, pNe_str, pLt_str, pGt_str, pIn_fl, pIn_ft, pNotIn_fl, pNotIn_ft, pIn_sl, pIn_st, pNotIn_sl, pNotIn_st, pIn_s2, pIx_dS, pIn_dS, pNotIn_dS, pSetK_dS, pLen_dS, pIx_dF, pIn_dF, pNotIn_dF, pSetT_dF, pLen_dF, List.length_map, slD_fu, slD_t, slD_l, slD_s, truD_i, truD_b, truD_n, truD_l, truD_t, revDt_l, revDt_t, fuD_eq, itemsS_t, itemsS_l, seqD_l, seqD_t, seqD_s]
    exact fun _ => hR
  · simp only [sCells, sAsg, sSeq, sIf, sSet, sRet, sRetN, sNext, sBoxPut, sPar, setAll, sExprM, mMeth, tyD, tBool, tTru, tAndM, tOrM, tNotM, m1, m2, mN, mV, mC, mCall, mBoxI, aNil, aCons, mIf, mTup, mLst, mLk, hasD, mAndV, mOrV, pNotB, aSeq, itemsS, aRng1, aRng2, aRng3, gN, gsNil, gsCons, gSt, pSetL, pLenB, isD, pSl, pSlL, oNone, oSome, pEq_int, pNe_int, pLt_int, pGt_int, pLe_int, pGe_int, mChain, aEnum, aZip, mCount, List.set_cons_zero, List.set_cons_succ, List.getElem?_cons_zero, List.getElem?_cons_succ, List.length_cons, List.length_nil, if_true, if_false, Bool.false_eq_true, true_and, and_true, decide_eq_true_eq, wipeD, tTrue, List.map_cons, List.map_nil, natD, at20, at21, at30, at31, at32, Option.some.injEq, exists_eq_left', gT_t, pAddE_i, pAddE_s, pAddE_l, pAddE_t, pAdd_i, pAddL_l, pSub_i, pMod_i, pFdiv_i, pNeg_i, pTupOf_l, pListOf_l, pListOf_t, pMin_i, pMax_i, pIs_n, pIs_b, pIsNot_n, pIsNot_b, pInt1_i, pAbs_i, qAppend_l, qExtend_l, qExtend_t, pSum_i, pAny_b, pAll_b, pRev, pRevL, pSl, pIx_t, pIx_l, pLen_map, pLen_mapT, pLen_net, pLen_t, pLen_l, pLen_s, pIn_ss, pNotIn_ss, pIn_s3, pIx_s, pIx_fu0, pIx_fu1, pIx_fu2, pIx_p0, pIx_p1, gT_fu, pEq_fu, pNe_fu, pEq_str, pNe_str, pLt_str, pGt_str, pIn_fl, pIn_ft, pNotIn_fl, pNotIn_ft, pIn_sl, pIn_st, pNotIn_sl, pNotIn_st, pIn_s2, pIx_dS, pIn_dS, pNotIn_dS, pSetK_dS, pLen_dS, pIx_dF, pIn_dF, pNotIn_dF, pSetT_dF, pLen_dF, List.length_map, slD_fu, slD_t, slD_l, slD_s, truD_i, truD_b, truD_n, truD_l, truD_t, revDt_l, revDt_t, fuD_eq, itemsS_t, itemsS_l, seqD_l, seqD_t, seqD_s]
    split
    · rename_i e; exact hp (decide_eq_true e)
    · rename_i e; exact hn (decide_eq_false e)
theorem ok_beyond {f : Addr} {fd : FuncData} (F : Fun K "beyond" "beyond" s_beyond f fd)  : FnOk P w K mg base CX0 1 f fd ["fuse", "knot"] (spD K 2 q_beyond) := by
  have nd := sc_beyond.nd
  refine fnD (φ := q_beyond) F sc_beyond i_beyond rfl rfl (by decide) (fun cdv A outer s H E hr => (dss_one (ds_ret (de_if (dt_cmp (r_eq (hu200 hr)) (db (de_ix (hu200 hr) (w_b 0) de_int)) (w_b 1)) (de_ix (hu200 hr) (w_b 0) de_int) (de_ix (hu200 hr) (w_b 0) de_int))))) ?_
  rintro ds Q hl ⟨f, k, rfl, h⟩
  rw [show startD ["fuse", "knot"] ([fuD f, .str k].map some) = [some (fuD f), some (.str k)] from rfl]
  simp only [sCells, sAsg, sSeq, sIf, sSet, sRet, sRetN, sNext, sBoxPut, sPar, setAll, sExprM, mMeth, tyD, tBool, tTru, tAndM, tOrM, tNotM, m1, m2, mN, mV, mC, mCall, mBoxI, aNil, aCons, mIf, mTup, mLst, mLk, hasD, mAndV, mOrV, pNotB, aSeq, itemsS, aRng1, aRng2, aRng3, gN, gsNil, gsCons, gSt, pSetL, pLenB, isD, pSl, pSlL, oNone, oSome, pEq_int, pNe_int, pLt_int, pGt_int, pLe_int, pGe_int, mChain, aEnum, aZip, mCount, List.set_cons_zero, List.set_cons_succ, List.getElem?_cons_zero, List.getElem?_cons_succ, List.length_cons, List.length_nil, if_true, if_false, Bool.false_eq_true, true_and, and_true, decide_eq_true_eq, wipeD, tTrue, List.map_cons, List.map_nil, natD, at20, at21, at30, at31, at32, Option.some.injEq, exists_eq_left', gT_t, pAddE_i, pAddE_s, pAddE_l, pAddE_t, pAdd_i, pAddL_l, pSub_i, pMod_i, pFdiv_i, pNeg_i, pTupOf_l, pListOf_l, pListOf_t, pMin_i, pMax_i, pIs_n, pIs_b, pIsNot_n, pIsNot_b, pInt1_i, pAbs_i, qAppend_l, qExtend_l, qExtend_t, pSum_i, pAny_b, pAll_b, pRev, pRevL, pSl, pIx_t, pIx_l, pLen_map, pLen_mapT, pLen_net, pLen_t, pLen_l, pLen_s, pIn_ss, pNotIn_ss, pIn_s3, pIx_s, pIx_fu0, pIx_fu1, pIx_fu2, pIx_p0, pIx_p1, gT_fu, pEq_fu, pNe_fu, pEq_str, pNe_str, pLt_str, pGt_str, pIn_fl, pIn_ft, pNotIn_fl, pNotIn_ft, pIn_sl, pIn_st, pNotIn_sl, pNotIn_st, pIn_s2, pIx_dS, pIn_dS, pNotIn_dS, pSetK_dS, pLen_dS, pIx_dF, pIn_dF, pNotIn_dF, pSetT_dF, pLen_dF, List.length_map, slD_fu, slD_t, slD_l, slD_s, truD_i, truD_b, truD_n, truD_l, truD_t, revDt_l, revDt_t, fuD_eq, itemsS_t, itemsS_l, seqD_l, seqD_t, seqD_s]
  unfold othK at h
  split at h
  · rename_i e
    rw [if_pos e]; exact h
  · rename_i e
    rw [if_neg e]; exact h
theorem ok_net_without {f : Addr} {fd : FuncData} (F : Fun K "net_without" "net_without" s_net_without f fd) (m_tuple : mg "tuple" = none) : FnOk P w K mg base CX0 1 f fd ["net", "cut"] (spD K 2 q_net_without) := by
  have nd := sc_net_without.nd
  refine fnD (φ := q_net_without) F sc_net_without i_net_without rfl rfl (by decide) (fun cdv A outer s H E hr => (dss_one (ds_ret (de_bty r_tupOf (by rfl) m_tuple boot_tuple (dab_cons (db (de (df_lc [("fuse", 2)] [] ⟨by decide, by decide, by decide, by decide⟩ (by decide) rfl nd (di_seq (dq (w_v 0))) (blkOk_by (by kernel_rfl)) (fun _ _ _ _ _ => (w_gn 2 nd)) (fun _ _ _ _ _ => (dts_one (dt_cmpM (r_notIn (hu200 hr)) (w_v 2) (w_b 1)))) (fun _ _ _ _ _ => (w_v 2))))) dab_nil))))) ?_
  rintro ds Q hl ⟨net, cut, rfl, hn, h⟩
  rw [show startD ["net", "cut", "fuse"] ([netD net, netD cut].map some) = [some (netD net), some (netD cut), none] from rfl]
  simp only [sCells, sAsg, sSeq, sIf, sSet, sRet, sRetN, sNext, sBoxPut, sPar, setAll, sExprM, mMeth, tyD, tBool, tTru, tAndM, tOrM, tNotM, m1, m2, mN, mV, mC, mCall, mBoxI, aNil, aCons, mIf, mTup, mLst, mLk, hasD, mAndV, mOrV, pNotB, aSeq, itemsS, aRng1, aRng2, aRng3, gN, gsNil, gsCons, gSt, pSetL, pLenB, isD, pSl, pSlL, oNone, oSome, pEq_int, pNe_int, pLt_int, pGt_int, pLe_int, pGe_int, mChain, aEnum, aZip, mCount, List.set_cons_zero, List.set_cons_succ, List.getElem?_cons_zero, List.getElem?_cons_succ, List.length_cons, List.length_nil, if_true, if_false, Bool.false_eq_true, true_and, and_true, decide_eq_true_eq, wipeD, tTrue, List.map_cons, List.map_nil, natD, at20, at21, at30, at31, at32, Option.some.injEq, exists_eq_left', gT_t, pAddE_i, pAddE_s, pAddE_l, pAddE_t, pAdd_i, pAddL_l, pSub_i, pMod_i, pFdiv_i, pNeg_i, pTupOf_l, pListOf_l, pListOf_t, pMin_i, pMax_i, pIs_n, pIs_b, pIsNot_n, pIsNot_b, pInt1_i, pAbs_i, qAppend_l, qExtend_l, qExtend_t, pSum_i, pAny_b, pAll_b, pRev, pRevL, pSl, pIx_t, pIx_l, pLen_map, pLen_mapT, pLen_net, pLen_t, pLen_l, pLen_s, pIn_ss, pNotIn_ss, pIn_s3, pIx_s, pIx_fu0, pIx_fu1, pIx_fu2, pIx_p0, pIx_p1, gT_fu, pEq_fu, pNe_fu, pEq_str, pNe_str, pLt_str, pGt_str, pIn_fl, pIn_ft, pNotIn_fl, pNotIn_ft, pIn_sl, pIn_st, pNotIn_sl, pNotIn_st, pIn_s2, pIx_dS, pIn_dS, pNotIn_dS, pSetK_dS, pLen_dS, pIx_dF, pIn_dF, pNotIn_dF, pSetT_dF, pLen_dF, List.length_map, slD_fu, slD_t, slD_l, slD_s, truD_i, truD_b, truD_n, truD_l, truD_t, revDt_l, revDt_t, fuD_eq, itemsS_t, itemsS_l, seqD_l, seqD_t, seqD_s]
  refine mLc_filter net fuD fuD (fun f => !decide (f ∈ cut)) (fun R hR => ?_) (by rw [sizeLine_eq]; omega) (fun f hf P N hp hn => ?_) h
  · simp only [sCells, sAsg, sSeq, sIf, sSet, sRet, sRetN, sNext, sBoxPut, sPar, setAll, sExprM, mMeth, tyD, tBool, tTru, tAndM, tOrM, tNotM, m1, m2, mN, mV, mC, mCall, mBoxI, aNil, aCons, mIf, mTup, mLst, mLk, hasD, mAndV, mOrV, pNotB, aSeq, itemsS, aRng1, aRng2, aRng3, gN, gsNil, gsCons, gSt, pSetL, pLenB, isD, pSl, pSlL, oNone, oSome, pEq_int, pNe_int, pLt_int, pGt_int, pLe_int, pGe_int, mChain, aEnum, aZip, mCount, List.set_cons_zero, List.set_cons_succ, List.getElem?_cons_zero, List.getElem?_cons_succ, List.length_cons, List.length_nil, if_true, if_false, Bool.false_eq_true, true_and, and_true, decide_eq_true_eq, wipeD, tTrue, List.map_cons, List.map_nil, natD, at20, at21, at30, at31, at32, Option.some.injEq, exists_eq_left', gT_t, pAddE_i, pAddE_s, pAddE_l, pAddE_t, pAdd_i, pAddL_l, pSub_i, pMod_i, pFdiv_i, pNeg_i, pTupOf_l, pListOf_l, pListOf_t, pMin_i, pMax_i, pIs_n, pIs_b, pIsNot_n, pIsNot_b, pInt1_i, pAbs_i, qAppend_l, qExtend_l, qExtend_t, pSum_i, pAny_b, pAll_b, pRev, pRevL, pSl, pIx_t, pIx_l, pLen_map, pLen_mapT, pLen_net, pLen_t, pLen_l, pLen_s, pIn_ss, pNotIn_ss, pIn_s3, pIx_s, pIx_fu0, pIx_fu1, pIx_fu2, pIx_p0, pIx_p1, gT_fu, pEq_fu, pNe_fu, pEq_str, pNe_str, pLt_str, pGt_str, pIn_fl, pIn_ft, pNotIn_fl, pNotIn_ft, pIn_sl, pIn_st, pNotIn_sl, pNotIn_st, pIn_s2, pIx_dS, pIn_dS, pNotIn_dS, pSetK_dS, pLen_dS, pIx_dF, pIn_dF, pNotIn_dF, pSetT_dF, pLen_dF, List.length_map, slD_fu, slD_t, slD_l, slD_s, truD_i, truD_b, truD_n, truD_l, truD_t, revDt_l, revDt_t, fuD_eq, itemsS_t, itemsS_l, seqD_l, seqD_t, seqD_s]; exact fun _ => hR
  · simp only [sCells, sAsg, sSeq, sIf, sSet, sRet, sRetN, sNext, sBoxPut, sPar, setAll, sExprM, mMeth, tyD, tBool, tTru, tAndM, tOrM, tNotM, m1, m2, mN, mV, mC, mCall, mBoxI, aNil, aCons, mIf, mTup, mLst, mLk, hasD, mAndV, mOrV, pNotB, aSeq, itemsS, aRng1, aRng2, aRng3, gN, gsNil, gsCons, gSt, pSetL, pLenB, isD, pSl, pSlL, oNone, oSome, pEq_int, pNe_int, pLt_int, pGt_int, pLe_int, pGe_int, mChain, aEnum, aZip, mCount, List.set_cons_zero, List.set_cons_succ, List.getElem?_cons_zero, List.getElem?_cons_succ, List.length_cons, List.length_nil, if_true, if_false, Bool.false_eq_true, true_and, and_true, decide_eq_true_eq, wipeD, tTrue, List.map_cons, List.map_nil, natD, at20, at21, at30, at31, at32, Option.some.injEq, exists_eq_left', gT_t, pAddE_i, pAddE_s, pAddE_l, pAddE_t, pAdd_i, pAddL_l, pSub_i, pMod_i, pFdiv_i, pNeg_i, pTupOf_l, pListOf_l, pListOf_t, pMin_i, pMax_i, pIs_n, pIs_b, pIsNot_n, pIsNot_b, pInt1_i, pAbs_i, qAppend_l, qExtend_l, qExtend_t, pSum_i, pAny_b, pAll_b, pRev, pRevL, pSl, pIx_t, pIx_l, pLen_map, pLen_mapT, pLen_net, pLen_t, pLen_l, pLen_s, pIn_ss, pNotIn_ss, pIn_s3, pIx_s, pIx_fu0, pIx_fu1, pIx_fu2, pIx_p0, pIx_p1, gT_fu, pEq_fu, pNe_fu, pEq_str, pNe_str, pLt_str, pGt_str, pIn_fl, pIn_ft, pNotIn_fl, pNotIn_ft, pIn_sl, pIn_st, pNotIn_sl, pNotIn_st, pIn_s2, pIx_dS, pIn_dS, pNotIn_dS, pSetK_dS, pLen_dS, pIx_dF, pIn_dF, pNotIn_dF, pSetT_dF, pLen_dF, List.length_map, slD_fu, slD_t, slD_l, slD_s, truD_i, truD_b, truD_n, truD_l, truD_t, revDt_l, revDt_t, fuD_eq, itemsS_t, itemsS_l, seqD_l, seqD_t, seqD_s]
    by_cases e : f ∈ cut
    · rw [if_neg (by simp [e])]; exact hn (by simp [e])
    · rw [if_pos (by simp [e])]; exact hp (by simp [e])
theorem ok_part_rows {f : Addr} {fd : FuncData} (F : Fun K "part_rows" "part_rows" s_part_rows f fd) (m_len : mg "len" = none) (m_range : mg "range" = none) : FnOk P w K mg base CX0 1 f fd ["parts", "many"] (spD K 2 q_part_rows) := by
  have nd := sc_part_rows.nd
  refine fnD (φ := q_part_rows) F sc_part_rows i_part_rows rfl rfl (by decide) (fun cdv A outer s H E hr => (dss_cons (w_set 2 nd (de (df_lst (dae_cons (de_tup (dae_cons (de_tup dae_nil) (dae_cons de_int dae_nil))) dae_nil))))
 (dss_cons (ds_for [] (by decide) rfl (di_range1 (by rfl) m_range (dae_cons (w_v 1) dae_nil)) (dgw (w_gn 3 nd))
 (dss_one (ds_setLc2V 2 [("row", 4), ("at", 5), ("k", 6)] [] [6] ⟨⟨by decide, by decide, by decide, by decide⟩, by decide, by decide⟩ (by decide) (by decide) rfl nd rfl rfl (sw_true rfl rfl rfl (by decide +kernel)) (di_seq (dq (w_v 2))) (blkOk_by (by kernel_rfl)) (fun _ _ _ _ _ => (dg_tup rfl (dgs_cons (w_gn 4 nd) (dgs_cons (w_gn 5 nd) dgs_nil)))) (fun _ _ _ _ _ => dts_nil) (fun _ _ _ _ _ => (di_range2 (by rfl) m_range (dae_cons (w_v 5) (dae_cons (de_bi r_len (by rfl) m_len boot_len (dab_cons (w_b 0) dab_nil)) dae_nil)))) (fun _ _ _ _ _ => (w_gn 6 nd)) (fun _ _ _ _ _ => dts_nil) (fun _ _ _ _ _ => (de_tup (dae_cons (de_binE r_addE (w_v 4) (de_tup (dae_cons (de_ix (hu200 hr) (w_b 0) (w_v 6)) dae_nil))) (dae_cons (de_binE r_addE (w_v 6) de_int) dae_nil)))))) PassesOwn.never)
 (dss_one (ds_ret (de (df_lc [("row", 4), ("_", 3)] [] ⟨by decide, by decide, by decide, by decide⟩ (by decide) rfl nd (di_seq (dq (w_v 2))) (blkOk_by (by kernel_rfl)) (fun _ _ _ _ _ => (dg_tup rfl (dgs_cons (w_gn 4 nd) (dgs_cons (w_gn 3 nd) dgs_nil)))) (fun _ _ _ _ _ => dts_nil) (fun _ _ _ _ _ => (w_v 4))))))))) ?_
  rintro ds Q hl ⟨ps, m, rfl, hn, hm, h⟩
  rw [show startD ["parts", "many", "rows", "_", "row", "at", "k"] ([netD ps, .int m].map some) = [some (netD ps), some (.int m), none, none, none, none, none] from rfl]
  simp only [sCells, sAsg, sSeq, sIf, sSet, sRet, sRetN, sNext, sBoxPut, sPar, setAll, sExprM, mMeth, tyD, tBool, tTru, tAndM, tOrM, tNotM, m1, m2, mN, mV, mC, mCall, mBoxI, aNil, aCons, mIf, mTup, mLst, mLk, hasD, mAndV, mOrV, pNotB, aSeq, itemsS, aRng1, aRng2, aRng3, gN, gsNil, gsCons, gSt, pSetL, pLenB, isD, pSl, pSlL, oNone, oSome, pEq_int, pNe_int, pLt_int, pGt_int, pLe_int, pGe_int, mChain, aEnum, aZip, mCount, List.set_cons_zero, List.set_cons_succ, List.getElem?_cons_zero, List.getElem?_cons_succ, List.length_cons, List.length_nil, if_true, if_false, Bool.false_eq_true, true_and, and_true, decide_eq_true_eq, wipeD, tTrue, List.map_cons, List.map_nil, natD, at20, at21, at30, at31, at32, Option.some.injEq, exists_eq_left', gT_t, pAddE_i, pAddE_s, pAddE_l, pAddE_t, pAdd_i, pAddL_l, pSub_i, pMod_i, pFdiv_i, pNeg_i, pTupOf_l, pListOf_l, pListOf_t, pMin_i, pMax_i, pIs_n, pIs_b, pIsNot_n, pIsNot_b, pInt1_i, pAbs_i, qAppend_l, qExtend_l, qExtend_t, pSum_i, pAny_b, pAll_b, pRev, pRevL, pSl, pIx_t, pIx_l, pLen_map, pLen_mapT, pLen_net, pLen_t, pLen_l, pLen_s, pIn_ss, pNotIn_ss, pIn_s3, pIx_s, pIx_fu0, pIx_fu1, pIx_fu2, pIx_p0, pIx_p1, gT_fu, pEq_fu, pNe_fu, pEq_str, pNe_str, pLt_str, pGt_str, pIn_fl, pIn_ft, pNotIn_fl, pNotIn_ft, pIn_sl, pIn_st, pNotIn_sl, pNotIn_st, pIn_s2, pIx_dS, pIn_dS, pNotIn_dS, pSetK_dS, pLen_dS, pIx_dF, pIn_dF, pNotIn_dF, pSetT_dF, pLen_dF, List.length_map, slD_fu, slD_t, slD_l, slD_s, truD_i, truD_b, truD_n, truD_l, truD_t, revDt_l, revDt_t, fuD_eq, itemsS_t, itemsS_l, seqD_l, seqD_t, seqD_s]
  refine ⟨by decide, by decide, by decide, ?_⟩
  have e0 : (PyData.list [.tuple [.tuple [], .int 0]]) = .list ((prow ps 0).map fun p => .tuple [netD p.1, .int p.2]) := rfl
  rw [e0]
  have hz : ∀ i, (prow ps i).length ≤ 1048576 := fun i => Nat.le_trans (prow_len ps i) (by have := Nat.pow_le_pow_right (n := 2) (by decide) hn; simpa using this)
  refine sFor_rng 0 m (fun i ρ => ∃ o1 , ρ = [some (netD ps), some (.int m), some (.list ((prow ps i).map fun p => .tuple [netD p.1, .int p.2])), o1, none, none, none]) (fun R hR => ?_) ⟨_, rfl⟩ ?_ ?_
  · simp only [sCells, sAsg, sSeq, sIf, sSet, sRet, sRetN, sNext, sBoxPut, sPar, setAll, sExprM, mMeth, tyD, tBool, tTru, tAndM, tOrM, tNotM, m1, m2, mN, mV, mC, mCall, mBoxI, aNil, aCons, mIf, mTup, mLst, mLk, hasD, mAndV, mOrV, pNotB, aSeq, itemsS, aRng1, aRng2, aRng3, gN, gsNil, gsCons, gSt, pSetL, pLenB, isD, pSl, pSlL, oNone, oSome, pEq_int, pNe_int, pLt_int, pGt_int, pLe_int, pGe_int, mChain, aEnum, aZip, mCount, List.set_cons_zero, List.set_cons_succ, List.getElem?_cons_zero, List.getElem?_cons_succ, List.length_cons, List.length_nil, if_true, if_false, Bool.false_eq_true, true_and, and_true, decide_eq_true_eq, wipeD, tTrue, List.map_cons, List.map_nil, natD, at20, at21, at30, at31, at32, Option.some.injEq, exists_eq_left', gT_t, pAddE_i, pAddE_s, pAddE_l, pAddE_t, pAdd_i, pAddL_l, pSub_i, pMod_i, pFdiv_i, pNeg_i, pTupOf_l, pListOf_l, pListOf_t, pMin_i, pMax_i, pIs_n, pIs_b, pIsNot_n, pIsNot_b, pInt1_i, pAbs_i, qAppend_l, qExtend_l, qExtend_t, pSum_i, pAny_b, pAll_b, pRev, pRevL, pSl, pIx_t, pIx_l, pLen_map, pLen_mapT, pLen_net, pLen_t, pLen_l, pLen_s, pIn_ss, pNotIn_ss, pIn_s3, pIx_s, pIx_fu0, pIx_fu1, pIx_fu2, pIx_p0, pIx_p1, gT_fu, pEq_fu, pNe_fu, pEq_str, pNe_str, pLt_str, pGt_str, pIn_fl, pIn_ft, pNotIn_fl, pNotIn_ft, pIn_sl, pIn_st, pNotIn_sl, pNotIn_st, pIn_s2, pIx_dS, pIn_dS, pNotIn_dS, pSetK_dS, pLen_dS, pIx_dF, pIn_dF, pNotIn_dF, pSetT_dF, pLen_dF, List.length_map, slD_fu, slD_t, slD_l, slD_s, truD_i, truD_b, truD_n, truD_l, truD_t, revDt_l, revDt_t, fuD_eq, itemsS_t, itemsS_l, seqD_l, seqD_t, seqD_s]; exact ⟨rngOk_of (by omega) (by omega), hR⟩
  · rintro i _ hi ⟨o1, rfl⟩
    simp only [sCells, sAsg, sSeq, sIf, sSet, sRet, sRetN, sNext, sBoxPut, sPar, setAll, sExprM, mMeth, tyD, tBool, tTru, tAndM, tOrM, tNotM, m1, m2, mN, mV, mC, mCall, mBoxI, aNil, aCons, mIf, mTup, mLst, mLk, hasD, mAndV, mOrV, pNotB, aSeq, itemsS, aRng1, aRng2, aRng3, gN, gsNil, gsCons, gSt, pSetL, pLenB, isD, pSl, pSlL, oNone, oSome, pEq_int, pNe_int, pLt_int, pGt_int, pLe_int, pGe_int, mChain, aEnum, aZip, mCount, List.set_cons_zero, List.set_cons_succ, List.getElem?_cons_zero, List.getElem?_cons_succ, List.length_cons, List.length_nil, if_true, if_false, Bool.false_eq_true, true_and, and_true, decide_eq_true_eq, wipeD, tTrue, List.map_cons, List.map_nil, natD, at20, at21, at30, at31, at32, Option.some.injEq, exists_eq_left', gT_t, pAddE_i, pAddE_s, pAddE_l, pAddE_t, pAdd_i, pAddL_l, pSub_i, pMod_i, pFdiv_i, pNeg_i, pTupOf_l, pListOf_l, pListOf_t, pMin_i, pMax_i, pIs_n, pIs_b, pIsNot_n, pIsNot_b, pInt1_i, pAbs_i, qAppend_l, qExtend_l, qExtend_t, pSum_i, pAny_b, pAll_b, pRev, pRevL, pSl, pIx_t, pIx_l, pLen_map, pLen_mapT, pLen_net, pLen_t, pLen_l, pLen_s, pIn_ss, pNotIn_ss, pIn_s3, pIx_s, pIx_fu0, pIx_fu1, pIx_fu2, pIx_p0, pIx_p1, gT_fu, pEq_fu, pNe_fu, pEq_str, pNe_str, pLt_str, pGt_str, pIn_fl, pIn_ft, pNotIn_fl, pNotIn_ft, pIn_sl, pIn_st, pNotIn_sl, pNotIn_st, pIn_s2, pIx_dS, pIn_dS, pNotIn_dS, pSetK_dS, pLen_dS, pIx_dF, pIn_dF, pNotIn_dF, pSetT_dF, pLen_dF, List.length_map, slD_fu, slD_t, slD_l, slD_s, truD_i, truD_b, truD_n, truD_l, truD_t, revDt_l, revDt_t, fuD_eq, itemsS_t, itemsS_l, seqD_l, seqD_t, seqD_s]
    have hps : ∀ p ∈ prow ps i, p.2 ≤ ps.length ∧ p.1.length ≤ 20 := fun p hp => by
      obtain ⟨h1, h2, h3⟩ := prow_mem ps i p hp
      have := h1.length_le
      rw [List.length_take] at this
      exact ⟨h3, by omega⟩
    have e1 : ((prow ps i).flatMap fun p => (List.range (ps.length - p.2)).filterMap fun j => (ps[p.2 + j]?).map fun x => PyData.tuple [netD (p.1 ++ [x]), .int ((p.2 + j + 1 : Nat) : Int)]) = (prow ps (i + 1)).map fun p => .tuple [netD p.1, .int p.2] := by
      simp only [prow, List.map_flatMap, List.map_filterMap, Option.map_map]
      rfl
    refine mLc2_go (prow ps i) (fun p => .tuple [netD p.1, .int p.2]) (fun p => List.range (ps.length - p.2)) (fun p j => .int ((p.2 : Int) + j)) (fun p j => (ps[p.2 + j]?).map fun x => PyData.tuple [netD (p.1 ++ [x]), .int ((p.2 + j + 1 : Nat) : Int)])
      (fun p => [some (netD ps), some (.int m), some (.list ((prow ps i).map fun p => .tuple [netD p.1, .int p.2])), some (.int (0 + (i : Int))), some (netD p.1), some (.int p.2), none]) (fun R hR => ?_) ?_ (fun p hp K hK => ?_) (fun p hp R hR => ?_) (fun p hp j hj P N hy hn => ?_) ?_
    · simp only [sCells, sAsg, sSeq, sIf, sSet, sRet, sRetN, sNext, sBoxPut, sPar, setAll, sExprM, mMeth, tyD, tBool, tTru, tAndM, tOrM, tNotM, m1, m2, mN, mV, mC, mCall, mBoxI, aNil, aCons, mIf, mTup, mLst, mLk, hasD, mAndV, mOrV, pNotB, aSeq, itemsS, aRng1, aRng2, aRng3, gN, gsNil, gsCons, gSt, pSetL, pLenB, isD, pSl, pSlL, oNone, oSome, pEq_int, pNe_int, pLt_int, pGt_int, pLe_int, pGe_int, mChain, aEnum, aZip, mCount, List.set_cons_zero, List.set_cons_succ, List.getElem?_cons_zero, List.getElem?_cons_succ, List.length_cons, List.length_nil, if_true, if_false, Bool.false_eq_true, true_and, and_true, decide_eq_true_eq, wipeD, tTrue, List.map_cons, List.map_nil, natD, at20, at21, at30, at31, at32, Option.some.injEq, exists_eq_left', gT_t, pAddE_i, pAddE_s, pAddE_l, pAddE_t, pAdd_i, pAddL_l, pSub_i, pMod_i, pFdiv_i, pNeg_i, pTupOf_l, pListOf_l, pListOf_t, pMin_i, pMax_i, pIs_n, pIs_b, pIsNot_n, pIsNot_b, pInt1_i, pAbs_i, qAppend_l, qExtend_l, qExtend_t, pSum_i, pAny_b, pAll_b, pRev, pRevL, pSl, pIx_t, pIx_l, pLen_map, pLen_mapT, pLen_net, pLen_t, pLen_l, pLen_s, pIn_ss, pNotIn_ss, pIn_s3, pIx_s, pIx_fu0, pIx_fu1, pIx_fu2, pIx_p0, pIx_p1, gT_fu, pEq_fu, pNe_fu, pEq_str, pNe_str, pLt_str, pGt_str, pIn_fl, pIn_ft, pNotIn_fl, pNotIn_ft, pIn_sl, pIn_st, pNotIn_sl, pNotIn_st, pIn_s2, pIx_dS, pIn_dS, pNotIn_dS, pSetK_dS, pLen_dS, pIx_dF, pIn_dF, pNotIn_dF, pSetT_dF, pLen_dF, List.length_map, slD_fu, slD_t, slD_l, slD_s, truD_i, truD_b, truD_n, truD_l, truD_t, revDt_l, revDt_t, fuD_eq, itemsS_t, itemsS_l, seqD_l, seqD_t, seqD_s]; exact fun _ => hR
    · rw [e1, List.length_map, sizeLine_eq]; have := hz (i + 1); omega
    · simp only [sCells, sAsg, sSeq, sIf, sSet, sRet, sRetN, sNext, sBoxPut, sPar, setAll, sExprM, mMeth, tyD, tBool, tTru, tAndM, tOrM, tNotM, m1, m2, mN, mV, mC, mCall, mBoxI, aNil, aCons, mIf, mTup, mLst, mLk, hasD, mAndV, mOrV, pNotB, aSeq, itemsS, aRng1, aRng2, aRng3, gN, gsNil, gsCons, gSt, pSetL, pLenB, isD, pSl, pSlL, oNone, oSome, pEq_int, pNe_int, pLt_int, pGt_int, pLe_int, pGe_int, mChain, aEnum, aZip, mCount, List.set_cons_zero, List.set_cons_succ, List.getElem?_cons_zero, List.getElem?_cons_succ, List.length_cons, List.length_nil, if_true, if_false, Bool.false_eq_true, true_and, and_true, decide_eq_true_eq, wipeD, tTrue, List.map_cons, List.map_nil, natD, at20, at21, at30, at31, at32, Option.some.injEq, exists_eq_left', gT_t, pAddE_i, pAddE_s, pAddE_l, pAddE_t, pAdd_i, pAddL_l, pSub_i, pMod_i, pFdiv_i, pNeg_i, pTupOf_l, pListOf_l, pListOf_t, pMin_i, pMax_i, pIs_n, pIs_b, pIsNot_n, pIsNot_b, pInt1_i, pAbs_i, qAppend_l, qExtend_l, qExtend_t, pSum_i, pAny_b, pAll_b, pRev, pRevL, pSl, pIx_t, pIx_l, pLen_map, pLen_mapT, pLen_net, pLen_t, pLen_l, pLen_s, pIn_ss, pNotIn_ss, pIn_s3, pIx_s, pIx_fu0, pIx_fu1, pIx_fu2, pIx_p0, pIx_p1, gT_fu, pEq_fu, pNe_fu, pEq_str, pNe_str, pLt_str, pGt_str, pIn_fl, pIn_ft, pNotIn_fl, pNotIn_ft, pIn_sl, pIn_st, pNotIn_sl, pNotIn_st, pIn_s2, pIx_dS, pIn_dS, pNotIn_dS, pSetK_dS, pLen_dS, pIx_dF, pIn_dF, pNotIn_dF, pSetT_dF, pLen_dF, List.length_map, slD_fu, slD_t, slD_l, slD_s, truD_i, truD_b, truD_n, truD_l, truD_t, revDt_l, revDt_t, fuD_eq, itemsS_t, itemsS_l, seqD_l, seqD_t, seqD_s]; exact hK
    · have := (hps p hp).1
      simp only [sCells, sAsg, sSeq, sIf, sSet, sRet, sRetN, sNext, sBoxPut, sPar, setAll, sExprM, mMeth, tyD, tBool, tTru, tAndM, tOrM, tNotM, m1, m2, mN, mV, mC, mCall, mBoxI, aNil, aCons, mIf, mTup, mLst, mLk, hasD, mAndV, mOrV, pNotB, aSeq, itemsS, aRng1, aRng2, aRng3, gN, gsNil, gsCons, gSt, pSetL, pLenB, isD, pSl, pSlL, oNone, oSome, pEq_int, pNe_int, pLt_int, pGt_int, pLe_int, pGe_int, mChain, aEnum, aZip, mCount, List.set_cons_zero, List.set_cons_succ, List.getElem?_cons_zero, List.getElem?_cons_succ, List.length_cons, List.length_nil, if_true, if_false, Bool.false_eq_true, true_and, and_true, decide_eq_true_eq, wipeD, tTrue, List.map_cons, List.map_nil, natD, at20, at21, at30, at31, at32, Option.some.injEq, exists_eq_left', gT_t, pAddE_i, pAddE_s, pAddE_l, pAddE_t, pAdd_i, pAddL_l, pSub_i, pMod_i, pFdiv_i, pNeg_i, pTupOf_l, pListOf_l, pListOf_t, pMin_i, pMax_i, pIs_n, pIs_b, pIsNot_n, pIsNot_b, pInt1_i, pAbs_i, qAppend_l, qExtend_l, qExtend_t, pSum_i, pAny_b, pAll_b, pRev, pRevL, pSl, pIx_t, pIx_l, pLen_map, pLen_mapT, pLen_net, pLen_t, pLen_l, pLen_s, pIn_ss, pNotIn_ss, pIn_s3, pIx_s, pIx_fu0, pIx_fu1, pIx_fu2, pIx_p0, pIx_p1, gT_fu, pEq_fu, pNe_fu, pEq_str, pNe_str, pLt_str, pGt_str, pIn_fl, pIn_ft, pNotIn_fl, pNotIn_ft, pIn_sl, pIn_st, pNotIn_sl, pNotIn_st, pIn_s2, pIx_dS, pIn_dS, pNotIn_dS, pSetK_dS, pLen_dS, pIx_dF, pIn_dF, pNotIn_dF, pSetT_dF, pLen_dF, List.length_map, slD_fu, slD_t, slD_l, slD_s, truD_i, truD_b, truD_n, truD_l, truD_t, revDt_l, revDt_t, fuD_eq, itemsS_t, itemsS_l, seqD_l, seqD_t, seqD_s]
      refine ⟨rngOk_of (by omega) (by omega), rngOk_of (by omega) (by omega), ?_⟩
      rw [rngD_eq, show ((ps.length : Int) - p.2).toNat = ps.length - p.2 by omega]; exact hR
    · have hj := List.mem_range.mp hj
      have h2 := (hps p hp).2
      have hx : ps[p.2 + j]? = some (ps[p.2 + j]) := List.getElem?_eq_getElem (by omega)
      rw [hx] at hy
      simp only [sCells, sAsg, sSeq, sIf, sSet, sRet, sRetN, sNext, sBoxPut, sPar, setAll, sExprM, mMeth, tyD, tBool, tTru, tAndM, tOrM, tNotM, m1, m2, mN, mV, mC, mCall, mBoxI, aNil, aCons, mIf, mTup, mLst, mLk, hasD, mAndV, mOrV, pNotB, aSeq, itemsS, aRng1, aRng2, aRng3, gN, gsNil, gsCons, gSt, pSetL, pLenB, isD, pSl, pSlL, oNone, oSome, pEq_int, pNe_int, pLt_int, pGt_int, pLe_int, pGe_int, mChain, aEnum, aZip, mCount, List.set_cons_zero, List.set_cons_succ, List.getElem?_cons_zero, List.getElem?_cons_succ, List.length_cons, List.length_nil, if_true, if_false, Bool.false_eq_true, true_and, and_true, decide_eq_true_eq, wipeD, tTrue, List.map_cons, List.map_nil, natD, at20, at21, at30, at31, at32, Option.some.injEq, exists_eq_left', gT_t, pAddE_i, pAddE_s, pAddE_l, pAddE_t, pAdd_i, pAddL_l, pSub_i, pMod_i, pFdiv_i, pNeg_i, pTupOf_l, pListOf_l, pListOf_t, pMin_i, pMax_i, pIs_n, pIs_b, pIsNot_n, pIsNot_b, pInt1_i, pAbs_i, qAppend_l, qExtend_l, qExtend_t, pSum_i, pAny_b, pAll_b, pRev, pRevL, pSl, pIx_t, pIx_l, pLen_map, pLen_mapT, pLen_net, pLen_t, pLen_l, pLen_s, pIn_ss, pNotIn_ss, pIn_s3, pIx_s, pIx_fu0, pIx_fu1, pIx_fu2, pIx_p0, pIx_p1, gT_fu, pEq_fu, pNe_fu, pEq_str, pNe_str, pLt_str, pGt_str, pIn_fl, pIn_ft, pNotIn_fl, pNotIn_ft, pIn_sl, pIn_st, pNotIn_sl, pNotIn_st, pIn_s2, pIx_dS, pIn_dS, pNotIn_dS, pSetK_dS, pLen_dS, pIx_dF, pIn_dF, pNotIn_dF, pSetT_dF, pLen_dF, List.length_map, slD_fu, slD_t, slD_l, slD_s, truD_i, truD_b, truD_n, truD_l, truD_t, revDt_l, revDt_t, fuD_eq, itemsS_t, itemsS_l, seqD_l, seqD_t, seqD_s]
      refine ⟨fuD (ps[p.2 + j]), ?_, by rw [sizeLine_eq]; omega, by rw [sizeLine_eq]; omega, by rw [sizeLine_eq]; omega, ?_⟩
      · rw [atD_nat (by omega), show ((p.2 : Int) + j).toNat = p.2 + j by omega, List.getElem?_map, hx]; rfl
      · have := hy _ rfl
        simp only [netD, List.map_append, List.map_cons, List.map_nil] at this
        exact this
    · rw [e1]
      exact ⟨_, rfl⟩
  · rintro _ ⟨o1, rfl⟩
    rw [Int.sub_zero, Int.toNat_natCast]
    simp only [sCells, sAsg, sSeq, sIf, sSet, sRet, sRetN, sNext, sBoxPut, sPar, setAll, sExprM, mMeth, tyD, tBool, tTru, tAndM, tOrM, tNotM, m1, m2, mN, mV, mC, mCall, mBoxI, aNil, aCons, mIf, mTup, mLst, mLk, hasD, mAndV, mOrV, pNotB, aSeq, itemsS, aRng1, aRng2, aRng3, gN, gsNil, gsCons, gSt, pSetL, pLenB, isD, pSl, pSlL, oNone, oSome, pEq_int, pNe_int, pLt_int, pGt_int, pLe_int, pGe_int, mChain, aEnum, aZip, mCount, List.set_cons_zero, List.set_cons_succ, List.getElem?_cons_zero, List.getElem?_cons_succ, List.length_cons, List.length_nil, if_true, if_false, Bool.false_eq_true, true_and, and_true, decide_eq_true_eq, wipeD, tTrue, List.map_cons, List.map_nil, natD, at20, at21, at30, at31, at32, Option.some.injEq, exists_eq_left', gT_t, pAddE_i, pAddE_s, pAddE_l, pAddE_t, pAdd_i, pAddL_l, pSub_i, pMod_i, pFdiv_i, pNeg_i, pTupOf_l, pListOf_l, pListOf_t, pMin_i, pMax_i, pIs_n, pIs_b, pIsNot_n, pIsNot_b, pInt1_i, pAbs_i, qAppend_l, qExtend_l, qExtend_t, pSum_i, pAny_b, pAll_b, pRev, pRevL, pSl, pIx_t, pIx_l, pLen_map, pLen_mapT, pLen_net, pLen_t, pLen_l, pLen_s, pIn_ss, pNotIn_ss, pIn_s3, pIx_s, pIx_fu0, pIx_fu1, pIx_fu2, pIx_p0, pIx_p1, gT_fu, pEq_fu, pNe_fu, pEq_str, pNe_str, pLt_str, pGt_str, pIn_fl, pIn_ft, pNotIn_fl, pNotIn_ft, pIn_sl, pIn_st, pNotIn_sl, pNotIn_st, pIn_s2, pIx_dS, pIn_dS, pNotIn_dS, pSetK_dS, pLen_dS, pIx_dF, pIn_dF, pNotIn_dF, pSetT_dF, pLen_dF, List.length_map, slD_fu, slD_t, slD_l, slD_s, truD_i, truD_b, truD_n, truD_l, truD_t, revDt_l, revDt_t, fuD_eq, itemsS_t, itemsS_l, seqD_l, seqD_t, seqD_s]
    refine mLc_map (prow ps m) (fun p => .tuple [netD p.1, .int p.2]) (fun p => netD p.1) (fun R hR => ?_) (by rw [sizeLine_eq]; have := hz m; omega) (fun p hp P N hq => ?_) ?_
    · simp only [sCells, sAsg, sSeq, sIf, sSet, sRet, sRetN, sNext, sBoxPut, sPar, setAll, sExprM, mMeth, tyD, tBool, tTru, tAndM, tOrM, tNotM, m1, m2, mN, mV, mC, mCall, mBoxI, aNil, aCons, mIf, mTup, mLst, mLk, hasD, mAndV, mOrV, pNotB, aSeq, itemsS, aRng1, aRng2, aRng3, gN, gsNil, gsCons, gSt, pSetL, pLenB, isD, pSl, pSlL, oNone, oSome, pEq_int, pNe_int, pLt_int, pGt_int, pLe_int, pGe_int, mChain, aEnum, aZip, mCount, List.set_cons_zero, List.set_cons_succ, List.getElem?_cons_zero, List.getElem?_cons_succ, List.length_cons, List.length_nil, if_true, if_false, Bool.false_eq_true, true_and, and_true, decide_eq_true_eq, wipeD, tTrue, List.map_cons, List.map_nil, natD, at20, at21, at30, at31, at32, Option.some.injEq, exists_eq_left', gT_t, pAddE_i, pAddE_s, pAddE_l, pAddE_t, pAdd_i, pAddL_l, pSub_i, pMod_i, pFdiv_i, pNeg_i, pTupOf_l, pListOf_l, pListOf_t, pMin_i, pMax_i, pIs_n, pIs_b, pIsNot_n, pIsNot_b, pInt1_i, pAbs_i, qAppend_l, qExtend_l, qExtend_t, pSum_i, pAny_b, pAll_b, pRev, pRevL, pSl, pIx_t, pIx_l, pLen_map, pLen_mapT, pLen_net, pLen_t, pLen_l, pLen_s, pIn_ss, pNotIn_ss, pIn_s3, pIx_s, pIx_fu0, pIx_fu1, pIx_fu2, pIx_p0, pIx_p1, gT_fu, pEq_fu, pNe_fu, pEq_str, pNe_str, pLt_str, pGt_str, pIn_fl, pIn_ft, pNotIn_fl, pNotIn_ft, pIn_sl, pIn_st, pNotIn_sl, pNotIn_st, pIn_s2, pIx_dS, pIn_dS, pNotIn_dS, pSetK_dS, pLen_dS, pIx_dF, pIn_dF, pNotIn_dF, pSetT_dF, pLen_dF, List.length_map, slD_fu, slD_t, slD_l, slD_s, truD_i, truD_b, truD_n, truD_l, truD_t, revDt_l, revDt_t, fuD_eq, itemsS_t, itemsS_l, seqD_l, seqD_t, seqD_s]; exact fun _ => hR
    · simp only [sCells, sAsg, sSeq, sIf, sSet, sRet, sRetN, sNext, sBoxPut, sPar, setAll, sExprM, mMeth, tyD, tBool, tTru, tAndM, tOrM, tNotM, m1, m2, mN, mV, mC, mCall, mBoxI, aNil, aCons, mIf, mTup, mLst, mLk, hasD, mAndV, mOrV, pNotB, aSeq, itemsS, aRng1, aRng2, aRng3, gN, gsNil, gsCons, gSt, pSetL, pLenB, isD, pSl, pSlL, oNone, oSome, pEq_int, pNe_int, pLt_int, pGt_int, pLe_int, pGe_int, mChain, aEnum, aZip, mCount, List.set_cons_zero, List.set_cons_succ, List.getElem?_cons_zero, List.getElem?_cons_succ, List.length_cons, List.length_nil, if_true, if_false, Bool.false_eq_true, true_and, and_true, decide_eq_true_eq, wipeD, tTrue, List.map_cons, List.map_nil, natD, at20, at21, at30, at31, at32, Option.some.injEq, exists_eq_left', gT_t, pAddE_i, pAddE_s, pAddE_l, pAddE_t, pAdd_i, pAddL_l, pSub_i, pMod_i, pFdiv_i, pNeg_i, pTupOf_l, pListOf_l, pListOf_t, pMin_i, pMax_i, pIs_n, pIs_b, pIsNot_n, pIsNot_b, pInt1_i, pAbs_i, qAppend_l, qExtend_l, qExtend_t, pSum_i, pAny_b, pAll_b, pRev, pRevL, pSl, pIx_t, pIx_l, pLen_map, pLen_mapT, pLen_net, pLen_t, pLen_l, pLen_s, pIn_ss, pNotIn_ss, pIn_s3, pIx_s, pIx_fu0, pIx_fu1, pIx_fu2, pIx_p0, pIx_p1, gT_fu, pEq_fu, pNe_fu, pEq_str, pNe_str, pLt_str, pGt_str, pIn_fl, pIn_ft, pNotIn_fl, pNotIn_ft, pIn_sl, pIn_st, pNotIn_sl, pNotIn_st, pIn_s2, pIx_dS, pIn_dS, pNotIn_dS, pSetK_dS, pLen_dS, pIx_dF, pIn_dF, pNotIn_dF, pSetT_dF, pLen_dF, List.length_map, slD_fu, slD_t, slD_l, slD_s, truD_i, truD_b, truD_n, truD_l, truD_t, revDt_l, revDt_t, fuD_eq, itemsS_t, itemsS_l, seqD_l, seqD_t, seqD_s]; exact hq
    · unfold comb at h; rw [List.map_map] at h; exact h
theorem ok__law_box {f : Addr} {fd : FuncData} (F : Fun K "_law_box" "_law_box" s__law_box f fd) (m_len : mg "len" = none) (m_list : mg "list" = none) : FnOk P w K mg base CX0 1 f fd ["script"] (spBox K) := by
  refine F.ok sc__law_box (fun vs H Q E ⟨a, ns, e, _⟩ => by rw [e]; rfl) (fun cdv A outer s H vs Q E hr h => ?_)
  obtain ⟨a, ns, rfl, hS, hlen, q⟩ := h
  refine ⟨_, pss_one (ps_ret (pe_lst (pa_cons (pe_callTy call_list_of (by rfl) m_list boot_list (pa_cons (pe_slice sl_list (pv 0) po_none (po_some pe_int)) pa_nil)) (pa_cons pe_int (pa_cons (pe_op op_add pe_int (pe_callB call_len_seq (by rfl) m_len boot_len (pa_cons (pv 0) pa_nil))) pa_nil))))), ?_⟩
  refine ⟨.ref a, rfl, 63, rfl, a, ns.map V.int, rfl, hS, fun p hp => ⟨p, _, rfl, .inl (.inl (.inl upd_same)), fun c hc => ?_⟩⟩
  have sm1 : Same H (upd H p (.lst (cutV (ns.map V.int) none (some 63)))) := fun b o e => by rw [upd_ne (ne_of_none e hp)]; exact e
  have sm2 : Same (upd H p (.lst (cutV (ns.map V.int) none (some 63)))) (upd (upd H p (.lst (cutV (ns.map V.int) none (some 63)))) c (.lst (cutV (ns.map V.int) none (some 63)))) := fun b o e => by rw [upd_ne (ne_of_none e hc)]; exact e
  refine ⟨.ref a, rfl, a, ns.map V.int, rfl, .inl (sm2.seq (sm1.seq hS)), 4711, _, rfl, rfl, by rw [sizeLine_eq]; exact (by omega : (3 : Nat) ≤ 16777216), fun b hb => ?_⟩
  have sm3 : ∀ {H' : Hp} {o : HO}, H' b = none → Same H' (upd H' b o) := fun hb b' o e => by rw [upd_ne (ne_of_none e hb)]; exact e
  have hcb : c ≠ b := fun z => by rw [← z, upd_same] at hb; cases hb
  have hcut : cutV (ns.map V.int) none (some 63) = ((ns.take (HT.sIx (ns.map V.int).length (ns.map V.int).length (some 63)))).map V.int := by
    unfold cutV
    rw [HT.sIx_none, List.drop_zero, Nat.sub_zero, List.map_take]
  refine q _ b c (fun x o e => (sm3 hb) x o (sm2 x o (sm1 x o e))) ?_ ?_ ⟨0, _, ns.take (HT.sIx (ns.map V.int).length (ns.map V.int).length (some 63)), upd_same, ?_⟩
  · exact (sm1.trans sm2).free hb
  · exact sm1.free hc
  · rw [upd_ne hcb, upd_same, hcut]

theorem ok__law_load {f : Addr} {fd : FuncData} (F : Fun K "_law_load" "_law_load" s__law_load f fd) (m_int : mg "int" = none) (m_len : mg "len" = none) : FnOk P w K mg base CX0 1 f fd ["box"] (spB K boxK 0 fLoad) := by
  have nd := sc__law_load.nd
  refine fnB (φ := fLoad) boxK_st F sc__law_load i__law_load rfl rfl (by decide) (fun cdv A outer s H E hr => (dss_cells 0 1 2 nd rfl rfl rfl rfl rfl (Or.inl rfl) rfl rfl (by decide) (by decide) (by decide) (by decide) (by decide) (by rfl) m_len (by rfl) m_int (by decide) (by decide) (by decide) (by decide) (by rfl) (by rfl) (fun h => pe_bm PySem.F.plainAttrs_list PySem.F.slot_list_pop PySem.F.type_list_pop mt_popAt h (pa_cons pe_int pa_nil)) (by rfl) (by rfl) (by rfl) (by rfl)
 (dss_cons (w_set 3 nd (de_if (dt_cmp (r_ge (hu200 hr)) (w_b 2) (db de_int)) (de_bin r_mulI (db de_int) (w_b 2)) (de_bin r_sub (db (de_bin r_mulI (db (de_neg (db de_int))) (w_b 2))) (db de_int))))
 (dss_cons (ds_if (dt_cmp (r_ge (hu200 hr)) (w_b 3) (db de_int))
 (dss_one (ds_ret (w_v 3)))
 dss_nil)
 (dss_one (ds_boxPut 0 (by decide) (de_bin r_mod (db (de_bty r_int1 (by rfl) m_int boot_int (dab_cons (db (de_binE r_addE (de_binE r_addE (de_bin r_mulI (db (de_boxI 0 (by decide))) (db de_int)) (de_bin r_mulI (w_b 3) (db de_int))) de_int)) dab_nil))) (db de_int))))))
 (dss_cons (w_set 4 nd (de_bin r_mod (db (de_bty r_int1 (by rfl) m_int boot_int (dab_cons (db (de_binE r_addE (de_bin r_mulI (db (de_boxI 0 (by decide))) (db de_int)) de_int)) dab_nil))) (db de_int)))
 (dss_cons (w_set 5 nd (de_bin r_mod (db (de_bty r_int1 (by rfl) m_int boot_int (dab_cons (db (de_binE r_addE (de_bin r_mulI (w_b 4) (db de_int)) de_int)) dab_nil))) (db de_int)))
 (dss_cons (ds_boxPut 0 (by decide) (de_bin r_mod (db (de_bty r_int1 (by rfl) m_int boot_int (dab_cons (db (de_binE r_addE (de_bin r_mulI (w_b 5) (db de_int)) de_int)) dab_nil))) (db de_int)))
 (dss_one (ds_ret (de_binE r_addE (de_binE r_addE (de_bin r_mulI (w_b 4) (db de_int)) (de_bin r_mulI (w_b 5) (db de_int))) (de_boxI 0 (by decide)))))))))) ?_
  intro ds Q hl h
  obtain rfl : ds = [] := List.length_eq_zero_iff.mp hl
  have h' : ∀ i, Q (.int i) := h
  rw [show startD ["box", "cells", "cell", "size", "first", "second"] (none :: [].map some) = [none, none, none, none, none, none] from rfl]
  simp only [sCells, sAsg, sSeq, sIf, sSet, sRet, sRetN, sNext, sBoxPut, sPar, setAll, sExprM, mMeth, tyD, tBool, tTru, tAndM, tOrM, tNotM, m1, m2, mN, mV, mC, mCall, mBoxI, aNil, aCons, mIf, mTup, mLst, mLk, hasD, mAndV, mOrV, pNotB, pNeg, aSeq, seqD, itemsS, aRng1, aRng2, aRng3, gN, gT, gsNil, gsCons, gSt, pSetL, pSetK, pSetT, qAppend, pAddE, pAdd, pSub, pInt1, pMod, pFdiv, pIx, pLen, pLenB, pAny, pAll, pTupOf, pListOf, pIs, pIsNot, isD, pSl, pSlL, oNone, oSome, pEq_int, pNe_int, pLt_int, pGt_int, pLe_int, pGe_int, mChain, pRev, pRevL, aEnum, aZip, pUpper, mCount, List.set_cons_zero, List.set_cons_succ, List.getElem?_cons_zero, List.getElem?_cons_succ, List.length_cons, List.length_nil, if_true, if_false, Bool.false_eq_true, true_and, and_true, decide_eq_true_eq, wipeD, tTrue, List.map_cons, List.map_nil, natD, at20, at21, at30, at31, at32, Option.some.injEq, exists_eq_left']
  simp [h', smallI]
theorem ok__law_knots {f : Addr} {fd : FuncData} (F : Fun K "_law_knots" "_law_knots" s__law_knots f fd) (m_dict : mg "dict" = none) (m_sorted : mg "sorted" = none) : FnOk P w K mg base CX0 1 f fd ["net"] (spD K 1 q__law_knots) := by
  have nd := sc__law_knots.nd
  refine fnD (φ := q__law_knots) F sc__law_knots i__law_knots rfl rfl (by decide) (fun cdv A outer s H E hr => (dss_one (ds_ret (de (df_bi (r_sorted rfl (hu200 hr)) (by rfl) m_sorted boot_sorted (dab_cons (db (de (df_bty (r_dictP rfl) (by rfl) m_dict boot_dict (dab_cons (db (de_binE r_addE (de (df_lc [("one", 1), ("other", 2), ("length", 3)] [] ⟨by decide, by decide, by decide, by decide⟩ (by decide) rfl nd (di_seq (dq (w_v 0))) (blkOk_by (by kernel_rfl)) (fun _ _ _ _ _ => (dg_tup rfl (dgs_cons (w_gn 1 nd) (dgs_cons (w_gn 2 nd) (dgs_cons (w_gn 3 nd) dgs_nil))))) (fun _ _ _ _ _ => dts_nil) (fun _ _ _ _ _ => (de_tup (dae_cons (w_v 1) (dae_cons de_int dae_nil)))))) (de (df_lc [("one", 1), ("other", 2), ("length", 3)] [] ⟨by decide, by decide, by decide, by decide⟩ (by decide) rfl nd (di_seq (dq (w_v 0))) (blkOk_by (by kernel_rfl)) (fun _ _ _ _ _ => (dg_tup rfl (dgs_cons (w_gn 1 nd) (dgs_cons (w_gn 2 nd) (dgs_cons (w_gn 3 nd) dgs_nil))))) (fun _ _ _ _ _ => dts_nil) (fun _ _ _ _ _ => (de_tup (dae_cons (w_v 2) (dae_cons de_int dae_nil)))))))) dab_nil)))) dab_nil)))))) ?_
  rintro ds Q hl ⟨net, rfl, hn, h⟩
  rw [show startD ["net", "one", "other", "length"] ([netD net].map some) = [some (netD net), none, none, none] from rfl]
  simp only [sCells, sAsg, sSeq, sIf, sSet, sRet, sRetN, sNext, sBoxPut, sPar, setAll, sExprM, mMeth, tyD, tBool, tTru, tAndM, tOrM, tNotM, m1, m2, mN, mV, mC, mCall, mBoxI, aNil, aCons, mIf, mTup, mLst, mLk, hasD, mAndV, mOrV, pNotB, aSeq, itemsS, aRng1, aRng2, aRng3, gN, gsNil, gsCons, gSt, pSetL, pLenB, isD, pSl, pSlL, oNone, oSome, pEq_int, pNe_int, pLt_int, pGt_int, pLe_int, pGe_int, mChain, aEnum, aZip, mCount, List.set_cons_zero, List.set_cons_succ, List.getElem?_cons_zero, List.getElem?_cons_succ, List.length_cons, List.length_nil, if_true, if_false, Bool.false_eq_true, true_and, and_true, decide_eq_true_eq, wipeD, tTrue, List.map_cons, List.map_nil, natD, at20, at21, at30, at31, at32, Option.some.injEq, exists_eq_left', gT_t, pAddE_i, pAddE_s, pAddE_l, pAddE_t, pAdd_i, pAddL_l, pSub_i, pMod_i, pFdiv_i, pNeg_i, pTupOf_l, pListOf_l, pListOf_t, pMin_i, pMax_i, pIs_n, pIs_b, pIsNot_n, pIsNot_b, pInt1_i, pAbs_i, qAppend_l, qExtend_l, qExtend_t, pSum_i, pAny_b, pAll_b, pRev, pRevL, pSl, pIx_t, pIx_l, pLen_map, pLen_mapT, pLen_net, pLen_t, pLen_l, pLen_s, pIn_ss, pNotIn_ss, pIn_s3, pIx_s, pIx_fu0, pIx_fu1, pIx_fu2, pIx_p0, pIx_p1, gT_fu, pEq_fu, pNe_fu, pEq_str, pNe_str, pLt_str, pGt_str, pIn_fl, pIn_ft, pNotIn_fl, pNotIn_ft, pIn_sl, pIn_st, pNotIn_sl, pNotIn_st, pIn_s2, pIx_dS, pIn_dS, pNotIn_dS, pSetK_dS, pLen_dS, pIx_dF, pIn_dF, pNotIn_dF, pSetT_dF, pLen_dF, List.length_map, slD_fu, slD_t, slD_l, slD_s, truD_i, truD_b, truD_n, truD_l, truD_t, revDt_l, revDt_t, fuD_eq, itemsS_t, itemsS_l, seqD_l, seqD_t, seqD_s]
  refine mLc_map net fuD (fun f => .tuple [.str f.a, .int 1]) (fun R hR => ?_) (by rw [sizeLine_eq]; omega) (fun f hf P N hp => ?_) ?_
  · simp only [sCells, sAsg, sSeq, sIf, sSet, sRet, sRetN, sNext, sBoxPut, sPar, setAll, sExprM, mMeth, tyD, tBool, tTru, tAndM, tOrM, tNotM, m1, m2, mN, mV, mC, mCall, mBoxI, aNil, aCons, mIf, mTup, mLst, mLk, hasD, mAndV, mOrV, pNotB, aSeq, itemsS, aRng1, aRng2, aRng3, gN, gsNil, gsCons, gSt, pSetL, pLenB, isD, pSl, pSlL, oNone, oSome, pEq_int, pNe_int, pLt_int, pGt_int, pLe_int, pGe_int, mChain, aEnum, aZip, mCount, List.set_cons_zero, List.set_cons_succ, List.getElem?_cons_zero, List.getElem?_cons_succ, List.length_cons, List.length_nil, if_true, if_false, Bool.false_eq_true, true_and, and_true, decide_eq_true_eq, wipeD, tTrue, List.map_cons, List.map_nil, natD, at20, at21, at30, at31, at32, Option.some.injEq, exists_eq_left', gT_t, pAddE_i, pAddE_s, pAddE_l, pAddE_t, pAdd_i, pAddL_l, pSub_i, pMod_i, pFdiv_i, pNeg_i, pTupOf_l, pListOf_l, pListOf_t, pMin_i, pMax_i, pIs_n, pIs_b, pIsNot_n, pIsNot_b, pInt1_i, pAbs_i, qAppend_l, qExtend_l, qExtend_t, pSum_i, pAny_b, pAll_b, pRev, pRevL, pSl, pIx_t, pIx_l, pLen_map, pLen_mapT, pLen_net, pLen_t, pLen_l, pLen_s, pIn_ss, pNotIn_ss, pIn_s3, pIx_s, pIx_fu0, pIx_fu1, pIx_fu2, pIx_p0, pIx_p1, gT_fu, pEq_fu, pNe_fu, pEq_str, pNe_str, pLt_str, pGt_str, pIn_fl, pIn_ft, pNotIn_fl, pNotIn_ft, pIn_sl, pIn_st, pNotIn_sl, pNotIn_st, pIn_s2, pIx_dS, pIn_dS, pNotIn_dS, pSetK_dS, pLen_dS, pIx_dF, pIn_dF, pNotIn_dF, pSetT_dF, pLen_dF, List.length_map, slD_fu, slD_t, slD_l, slD_s, truD_i, truD_b, truD_n, truD_l, truD_t, revDt_l, revDt_t, fuD_eq, itemsS_t, itemsS_l, seqD_l, seqD_t, seqD_s]; exact fun _ => hR
  · simp only [sCells, sAsg, sSeq, sIf, sSet, sRet, sRetN, sNext, sBoxPut, sPar, setAll, sExprM, mMeth, tyD, tBool, tTru, tAndM, tOrM, tNotM, m1, m2, mN, mV, mC, mCall, mBoxI, aNil, aCons, mIf, mTup, mLst, mLk, hasD, mAndV, mOrV, pNotB, aSeq, itemsS, aRng1, aRng2, aRng3, gN, gsNil, gsCons, gSt, pSetL, pLenB, isD, pSl, pSlL, oNone, oSome, pEq_int, pNe_int, pLt_int, pGt_int, pLe_int, pGe_int, mChain, aEnum, aZip, mCount, List.set_cons_zero, List.set_cons_succ, List.getElem?_cons_zero, List.getElem?_cons_succ, List.length_cons, List.length_nil, if_true, if_false, Bool.false_eq_true, true_and, and_true, decide_eq_true_eq, wipeD, tTrue, List.map_cons, List.map_nil, natD, at20, at21, at30, at31, at32, Option.some.injEq, exists_eq_left', gT_t, pAddE_i, pAddE_s, pAddE_l, pAddE_t, pAdd_i, pAddL_l, pSub_i, pMod_i, pFdiv_i, pNeg_i, pTupOf_l, pListOf_l, pListOf_t, pMin_i, pMax_i, pIs_n, pIs_b, pIsNot_n, pIsNot_b, pInt1_i, pAbs_i, qAppend_l, qExtend_l, qExtend_t, pSum_i, pAny_b, pAll_b, pRev, pRevL, pSl, pIx_t, pIx_l, pLen_map, pLen_mapT, pLen_net, pLen_t, pLen_l, pLen_s, pIn_ss, pNotIn_ss, pIn_s3, pIx_s, pIx_fu0, pIx_fu1, pIx_fu2, pIx_p0, pIx_p1, gT_fu, pEq_fu, pNe_fu, pEq_str, pNe_str, pLt_str, pGt_str, pIn_fl, pIn_ft, pNotIn_fl, pNotIn_ft, pIn_sl, pIn_st, pNotIn_sl, pNotIn_st, pIn_s2, pIx_dS, pIn_dS, pNotIn_dS, pSetK_dS, pLen_dS, pIx_dF, pIn_dF, pNotIn_dF, pSetT_dF, pLen_dF, List.length_map, slD_fu, slD_t, slD_l, slD_s, truD_i, truD_b, truD_n, truD_l, truD_t, revDt_l, revDt_t, fuD_eq, itemsS_t, itemsS_l, seqD_l, seqD_t, seqD_s]; exact ⟨by decide, hp⟩
  refine mLc_map net fuD (fun f => .tuple [.str f.b, .int 1]) (fun R hR => ?_) (by rw [sizeLine_eq]; omega) (fun f hf P N hp => ?_) ?_
  · simp only [sCells, sAsg, sSeq, sIf, sSet, sRet, sRetN, sNext, sBoxPut, sPar, setAll, sExprM, mMeth, tyD, tBool, tTru, tAndM, tOrM, tNotM, m1, m2, mN, mV, mC, mCall, mBoxI, aNil, aCons, mIf, mTup, mLst, mLk, hasD, mAndV, mOrV, pNotB, aSeq, itemsS, aRng1, aRng2, aRng3, gN, gsNil, gsCons, gSt, pSetL, pLenB, isD, pSl, pSlL, oNone, oSome, pEq_int, pNe_int, pLt_int, pGt_int, pLe_int, pGe_int, mChain, aEnum, aZip, mCount, List.set_cons_zero, List.set_cons_succ, List.getElem?_cons_zero, List.getElem?_cons_succ, List.length_cons, List.length_nil, if_true, if_false, Bool.false_eq_true, true_and, and_true, decide_eq_true_eq, wipeD, tTrue, List.map_cons, List.map_nil, natD, at20, at21, at30, at31, at32, Option.some.injEq, exists_eq_left', gT_t, pAddE_i, pAddE_s, pAddE_l, pAddE_t, pAdd_i, pAddL_l, pSub_i, pMod_i, pFdiv_i, pNeg_i, pTupOf_l, pListOf_l, pListOf_t, pMin_i, pMax_i, pIs_n, pIs_b, pIsNot_n, pIsNot_b, pInt1_i, pAbs_i, qAppend_l, qExtend_l, qExtend_t, pSum_i, pAny_b, pAll_b, pRev, pRevL, pSl, pIx_t, pIx_l, pLen_map, pLen_mapT, pLen_net, pLen_t, pLen_l, pLen_s, pIn_ss, pNotIn_ss, pIn_s3, pIx_s, pIx_fu0, pIx_fu1, pIx_fu2, pIx_p0, pIx_p1, gT_fu, pEq_fu, pNe_fu, pEq_str, pNe_str, pLt_str, pGt_str, pIn_fl, pIn_ft, pNotIn_fl, pNotIn_ft, pIn_sl, pIn_st, pNotIn_sl, pNotIn_st, pIn_s2, pIx_dS, pIn_dS, pNotIn_dS, pSetK_dS, pLen_dS, pIx_dF, pIn_dF, pNotIn_dF, pSetT_dF, pLen_dF, List.length_map, slD_fu, slD_t, slD_l, slD_s, truD_i, truD_b, truD_n, truD_l, truD_t, revDt_l, revDt_t, fuD_eq, itemsS_t, itemsS_l, seqD_l, seqD_t, seqD_s]; exact fun _ => hR
  · simp only [sCells, sAsg, sSeq, sIf, sSet, sRet, sRetN, sNext, sBoxPut, sPar, setAll, sExprM, mMeth, tyD, tBool, tTru, tAndM, tOrM, tNotM, m1, m2, mN, mV, mC, mCall, mBoxI, aNil, aCons, mIf, mTup, mLst, mLk, hasD, mAndV, mOrV, pNotB, aSeq, itemsS, aRng1, aRng2, aRng3, gN, gsNil, gsCons, gSt, pSetL, pLenB, isD, pSl, pSlL, oNone, oSome, pEq_int, pNe_int, pLt_int, pGt_int, pLe_int, pGe_int, mChain, aEnum, aZip, mCount, List.set_cons_zero, List.set_cons_succ, List.getElem?_cons_zero, List.getElem?_cons_succ, List.length_cons, List.length_nil, if_true, if_false, Bool.false_eq_true, true_and, and_true, decide_eq_true_eq, wipeD, tTrue, List.map_cons, List.map_nil, natD, at20, at21, at30, at31, at32, Option.some.injEq, exists_eq_left', gT_t, pAddE_i, pAddE_s, pAddE_l, pAddE_t, pAdd_i, pAddL_l, pSub_i, pMod_i, pFdiv_i, pNeg_i, pTupOf_l, pListOf_l, pListOf_t, pMin_i, pMax_i, pIs_n, pIs_b, pIsNot_n, pIsNot_b, pInt1_i, pAbs_i, qAppend_l, qExtend_l, qExtend_t, pSum_i, pAny_b, pAll_b, pRev, pRevL, pSl, pIx_t, pIx_l, pLen_map, pLen_mapT, pLen_net, pLen_t, pLen_l, pLen_s, pIn_ss, pNotIn_ss, pIn_s3, pIx_s, pIx_fu0, pIx_fu1, pIx_fu2, pIx_p0, pIx_p1, gT_fu, pEq_fu, pNe_fu, pEq_str, pNe_str, pLt_str, pGt_str, pIn_fl, pIn_ft, pNotIn_fl, pNotIn_ft, pIn_sl, pIn_st, pNotIn_sl, pNotIn_st, pIn_s2, pIx_dS, pIn_dS, pNotIn_dS, pSetK_dS, pLen_dS, pIx_dF, pIn_dF, pNotIn_dF, pSetT_dF, pLen_dF, List.length_map, slD_fu, slD_t, slD_l, slD_s, truD_i, truD_b, truD_n, truD_l, truD_t, revDt_l, revDt_t, fuD_eq, itemsS_t, itemsS_l, seqD_l, seqD_t, seqD_s]; exact ⟨by decide, hp⟩
  simp only [sCells, sAsg, sSeq, sIf, sSet, sRet, sRetN, sNext, sBoxPut, sPar, setAll, sExprM, mMeth, tyD, tBool, tTru, tAndM, tOrM, tNotM, m1, m2, mN, mV, mC, mCall, mBoxI, aNil, aCons, mIf, mTup, mLst, mLk, hasD, mAndV, mOrV, pNotB, aSeq, itemsS, aRng1, aRng2, aRng3, gN, gsNil, gsCons, gSt, pSetL, pLenB, isD, pSl, pSlL, oNone, oSome, pEq_int, pNe_int, pLt_int, pGt_int, pLe_int, pGe_int, mChain, aEnum, aZip, mCount, List.set_cons_zero, List.set_cons_succ, List.getElem?_cons_zero, List.getElem?_cons_succ, List.length_cons, List.length_nil, if_true, if_false, Bool.false_eq_true, true_and, and_true, decide_eq_true_eq, wipeD, tTrue, List.map_cons, List.map_nil, natD, at20, at21, at30, at31, at32, Option.some.injEq, exists_eq_left', gT_t, pAddE_i, pAddE_s, pAddE_l, pAddE_t, pAdd_i, pAddL_l, pSub_i, pMod_i, pFdiv_i, pNeg_i, pTupOf_l, pListOf_l, pListOf_t, pMin_i, pMax_i, pIs_n, pIs_b, pIsNot_n, pIsNot_b, pInt1_i, pAbs_i, qAppend_l, qExtend_l, qExtend_t, pSum_i, pAny_b, pAll_b, pRev, pRevL, pSl, pIx_t, pIx_l, pLen_map, pLen_mapT, pLen_net, pLen_t, pLen_l, pLen_s, pIn_ss, pNotIn_ss, pIn_s3, pIx_s, pIx_fu0, pIx_fu1, pIx_fu2, pIx_p0, pIx_p1, gT_fu, pEq_fu, pNe_fu, pEq_str, pNe_str, pLt_str, pGt_str, pIn_fl, pIn_ft, pNotIn_fl, pNotIn_ft, pIn_sl, pIn_st, pNotIn_sl, pNotIn_st, pIn_s2, pIx_dS, pIn_dS, pNotIn_dS, pSetK_dS, pLen_dS, pIx_dF, pIn_dF, pNotIn_dF, pSetT_dF, pLen_dF, List.length_map, slD_fu, slD_t, slD_l, slD_s, truD_i, truD_b, truD_n, truD_l, truD_t, revDt_l, revDt_t, fuD_eq, itemsS_t, itemsS_l, seqD_l, seqD_t, seqD_s]
  refine ⟨by rw [sizeLine_eq]; omega, ?_⟩
  have e : (net.map fun f => PyData.tuple [.str f.a, .int 1]) ++ (net.map fun f => PyData.tuple [.str f.b, .int 1]) = ((net.map fun f => (f.a, (1 : Int))) ++ (net.map fun f => (f.b, (1 : Int)))).map fun p => .tuple [.str p.1, .int p.2] := by rw [List.map_append, List.map_map, List.map_map]; rfl
  rw [e]
  refine pDictP_l PyData.int _ (pSorted_dS .int _ ?_)
  obtain ⟨nd, hm⟩ := amerge_gen ((net.map fun f => (f.a, (1 : Int))) ++ (net.map fun f => (f.b, (1 : Int)))) [] List.nodup_nil
  refine h _ (srt_strict nd) (fun k => ?_) ?_
  · rw [srt_mem]
    refine (hm k).trans ?_
    simp only [List.map_nil, List.not_mem_nil, false_or, List.map_append, List.mem_append, List.map_map, List.mem_map, Function.comp]
    constructor
    · rintro (⟨f, hf, rfl⟩ | ⟨f, hf, rfl⟩)
      · exact ⟨f, hf, .inl rfl⟩
      · exact ⟨f, hf, .inr rfl⟩
    · rintro ⟨f, hf, rfl | rfl⟩
      · exact .inl ⟨f, hf, rfl⟩
      · exact .inr ⟨f, hf, rfl⟩
  · rw [(srt_perm _).length_eq]
    have := nodup_le (m := (net.map (·.a)) ++ net.map (·.b)) nd fun x hx => by
      have := (hm x).mp hx
      simpa [List.map_map, Function.comp_def] using this
    refine Nat.le_trans this ?_
    rw [List.length_append, List.length_map, List.length_map]; omega
theorem ok__law_times {f : Addr} {fd : FuncData} (F : Fun K "_law_times" "_law_times" s__law_times f fd) (m_dict : mg "dict" = none) (m_len : mg "len" = none) (m_range : mg "range" = none) : FnOk P w K mg base CX0 1 f fd ["net", "lights"] (spD K 2 q__law_times) := by
  have nd := sc__law_times.nd
  refine fnD (φ := q__law_times) F sc__law_times i__law_times rfl rfl (by decide) (fun cdv A outer s H E hr => (dss_cons (w_setO 2 nd (df_bty (r_dictP rfl) (by rfl) m_dict boot_dict (dab_cons (w_b 1) dab_nil)))
 (dss_cons (ds_for [] (by decide) rfl (di_range1 (by rfl) m_range (dae_cons (de_binE r_addE (de_bi r_len (by rfl) m_len boot_len (dab_cons (w_b 0) dab_nil)) de_int) dae_nil)) (dgw (w_gn 3 nd))
 (dss_one (ds_for [] (by decide) rfl (di_seq (dq (w_v 0))) (dgw (dg_tup rfl (dgs_cons (w_gn 4 nd) (dgs_cons (w_gn 5 nd) (dgs_cons (w_gn 6 nd) dgs_nil)))))
 (dss_one (ds_for [] (by decide) rfl (di_seq (dq (de_tup (dae_cons (de_tup (dae_cons (w_v 4) (dae_cons (w_v 5) dae_nil))) (dae_cons (de_tup (dae_cons (w_v 5) (dae_cons (w_v 4) dae_nil))) dae_nil))))) (dgw (dg_tup rfl (dgs_cons (w_gn 7 nd) (dgs_cons (w_gn 8 nd) dgs_nil))))
 (dss_one (ds_if (dt_w (dw_and (dt_cmpM (r_in (hu200 hr)) (w_v 7) (w_b 2)) (dw_and1 (dt_w (dw_or (dt_cmpM (r_notIn (hu200 hr)) (w_v 8) (w_b 2)) (dw_or1 (dt_cmp (r_lt (hu200 hr)) (db (de_binE r_addE (de_ix (hu200 hr) (w_b 2) (w_v 7)) (w_v 6))) (db (de_ix (hu200 hr) (w_b 2) (w_v 8))))))))))
 (dss_one (ds_asgw (de_binE r_addE (de_ix (hu200 hr) (w_b 2) (w_v 7)) (w_v 6)) (w_gsub 2 (set_dict (hu1 hr)) st_dictK (w_v 8))))
 dss_nil)) PassesOwn.never)) PassesOwn.never)) PassesOwn.never)
 (dss_one (w_retO 2))))) ?_
  rintro ds Q hl ⟨net, L, rfl, hN, hL, h⟩
  rw [show startD ["net", "lights", "found", "step", "one", "other", "length", "here", "there"] ([netD net, lisD L].map some) = [some (netD net), some (lisD L), none, none, none, none, none, none, none] from rfl]
  simp only [sCells, sAsg, sSeq, sIf, sSet, sRet, sRetN, sNext, sBoxPut, sPar, setAll, sExprM, mMeth, tyD, tBool, tTru, tAndM, tOrM, tNotM, m1, m2, mN, mV, mC, mCall, mBoxI, aNil, aCons, mIf, mTup, mLst, mLk, hasD, mAndV, mOrV, pNotB, aSeq, itemsS, aRng1, aRng2, aRng3, gN, gsNil, gsCons, gSt, pSetL, pLenB, isD, pSl, pSlL, oNone, oSome, pEq_int, pNe_int, pLt_int, pGt_int, pLe_int, pGe_int, mChain, aEnum, aZip, mCount, List.set_cons_zero, List.set_cons_succ, List.getElem?_cons_zero, List.getElem?_cons_succ, List.length_cons, List.length_nil, if_true, if_false, Bool.false_eq_true, true_and, and_true, decide_eq_true_eq, wipeD, tTrue, List.map_cons, List.map_nil, natD, at20, at21, at30, at31, at32, Option.some.injEq, exists_eq_left', gT_t, pAddE_i, pAddE_s, pAddE_l, pAddE_t, pAdd_i, pAddL_l, pSub_i, pMod_i, pFdiv_i, pNeg_i, pTupOf_l, pListOf_l, pListOf_t, pMin_i, pMax_i, pIs_n, pIs_b, pIsNot_n, pIsNot_b, pInt1_i, pAbs_i, qAppend_l, qExtend_l, qExtend_t, pSum_i, pAny_b, pAll_b, pRev, pRevL, pSl, pIx_t, pIx_l, pLen_map, pLen_mapT, pLen_net, pLen_t, pLen_l, pLen_s, pIn_ss, pNotIn_ss, pIn_s3, pIx_s, pIx_fu0, pIx_fu1, pIx_fu2, pIx_p0, pIx_p1, gT_fu, pEq_fu, pNe_fu, pEq_str, pNe_str, pLt_str, pGt_str, pIn_fl, pIn_ft, pNotIn_fl, pNotIn_ft, pIn_sl, pIn_st, pNotIn_sl, pNotIn_st, pIn_s2, pIx_dS, pIn_dS, pNotIn_dS, pSetK_dS, pLen_dS, pIx_dF, pIn_dF, pNotIn_dF, pSetT_dF, pLen_dF, List.length_map, slD_fu, slD_t, slD_l, slD_s, truD_i, truD_b, truD_n, truD_l, truD_t, revDt_l, revDt_t, fuD_eq, itemsS_t, itemsS_l, seqD_l, seqD_t, seqD_s]
  refine dict_lis L hL.nd ?_
  have hz := hN.len
  have S0 : Snd net L L := ⟨hL.nd, fun k t h => .lit (aget_mem h)⟩
  refine sFor_rng 0 (net.length + 1) (fun i ρ => ∃ o1 o2 o3 o4 o5 o6, ρ = [some (netD net), some (lisD L), some (dS .int (rounds net i L)), o1, o2, o3, o4, o5, o6]) (fun R hR => ?_) ⟨_, _, _, _, _, _, rfl⟩ ?_ ?_
  · simp only [sCells, sAsg, sSeq, sIf, sSet, sRet, sRetN, sNext, sBoxPut, sPar, setAll, sExprM, mMeth, tyD, tBool, tTru, tAndM, tOrM, tNotM, m1, m2, mN, mV, mC, mCall, mBoxI, aNil, aCons, mIf, mTup, mLst, mLk, hasD, mAndV, mOrV, pNotB, aSeq, itemsS, aRng1, aRng2, aRng3, gN, gsNil, gsCons, gSt, pSetL, pLenB, isD, pSl, pSlL, oNone, oSome, pEq_int, pNe_int, pLt_int, pGt_int, pLe_int, pGe_int, mChain, aEnum, aZip, mCount, List.set_cons_zero, List.set_cons_succ, List.getElem?_cons_zero, List.getElem?_cons_succ, List.length_cons, List.length_nil, if_true, if_false, Bool.false_eq_true, true_and, and_true, decide_eq_true_eq, wipeD, tTrue, List.map_cons, List.map_nil, natD, at20, at21, at30, at31, at32, Option.some.injEq, exists_eq_left', gT_t, pAddE_i, pAddE_s, pAddE_l, pAddE_t, pAdd_i, pAddL_l, pSub_i, pMod_i, pFdiv_i, pNeg_i, pTupOf_l, pListOf_l, pListOf_t, pMin_i, pMax_i, pIs_n, pIs_b, pIsNot_n, pIsNot_b, pInt1_i, pAbs_i, qAppend_l, qExtend_l, qExtend_t, pSum_i, pAny_b, pAll_b, pRev, pRevL, pSl, pIx_t, pIx_l, pLen_map, pLen_mapT, pLen_net, pLen_t, pLen_l, pLen_s, pIn_ss, pNotIn_ss, pIn_s3, pIx_s, pIx_fu0, pIx_fu1, pIx_fu2, pIx_p0, pIx_p1, gT_fu, pEq_fu, pNe_fu, pEq_str, pNe_str, pLt_str, pGt_str, pIn_fl, pIn_ft, pNotIn_fl, pNotIn_ft, pIn_sl, pIn_st, pNotIn_sl, pNotIn_st, pIn_s2, pIx_dS, pIn_dS, pNotIn_dS, pSetK_dS, pLen_dS, pIx_dF, pIn_dF, pNotIn_dF, pSetT_dF, pLen_dF, List.length_map, slD_fu, slD_t, slD_l, slD_s, truD_i, truD_b, truD_n, truD_l, truD_t, revDt_l, revDt_t, fuD_eq, itemsS_t, itemsS_l, seqD_l, seqD_t, seqD_s]; exact ⟨rngOk_of (by omega) (by omega), hR⟩
  · rintro i _ hi ⟨o1, o2, o3, o4, o5, o6, rfl⟩
    simp only [sCells, sAsg, sSeq, sIf, sSet, sRet, sRetN, sNext, sBoxPut, sPar, setAll, sExprM, mMeth, tyD, tBool, tTru, tAndM, tOrM, tNotM, m1, m2, mN, mV, mC, mCall, mBoxI, aNil, aCons, mIf, mTup, mLst, mLk, hasD, mAndV, mOrV, pNotB, aSeq, itemsS, aRng1, aRng2, aRng3, gN, gsNil, gsCons, gSt, pSetL, pLenB, isD, pSl, pSlL, oNone, oSome, pEq_int, pNe_int, pLt_int, pGt_int, pLe_int, pGe_int, mChain, aEnum, aZip, mCount, List.set_cons_zero, List.set_cons_succ, List.getElem?_cons_zero, List.getElem?_cons_succ, List.length_cons, List.length_nil, if_true, if_false, Bool.false_eq_true, true_and, and_true, decide_eq_true_eq, wipeD, tTrue, List.map_cons, List.map_nil, natD, at20, at21, at30, at31, at32, Option.some.injEq, exists_eq_left', gT_t, pAddE_i, pAddE_s, pAddE_l, pAddE_t, pAdd_i, pAddL_l, pSub_i, pMod_i, pFdiv_i, pNeg_i, pTupOf_l, pListOf_l, pListOf_t, pMin_i, pMax_i, pIs_n, pIs_b, pIsNot_n, pIsNot_b, pInt1_i, pAbs_i, qAppend_l, qExtend_l, qExtend_t, pSum_i, pAny_b, pAll_b, pRev, pRevL, pSl, pIx_t, pIx_l, pLen_map, pLen_mapT, pLen_net, pLen_t, pLen_l, pLen_s, pIn_ss, pNotIn_ss, pIn_s3, pIx_s, pIx_fu0, pIx_fu1, pIx_fu2, pIx_p0, pIx_p1, gT_fu, pEq_fu, pNe_fu, pEq_str, pNe_str, pLt_str, pGt_str, pIn_fl, pIn_ft, pNotIn_fl, pNotIn_ft, pIn_sl, pIn_st, pNotIn_sl, pNotIn_st, pIn_s2, pIx_dS, pIn_dS, pNotIn_dS, pSetK_dS, pLen_dS, pIx_dF, pIn_dF, pNotIn_dF, pSetT_dF, pLen_dF, List.length_map, slD_fu, slD_t, slD_l, slD_s, truD_i, truD_b, truD_n, truD_l, truD_t, revDt_l, revDt_t, fuD_eq, itemsS_t, itemsS_l, seqD_l, seqD_t, seqD_s]
    refine sFor_go net fuD (fun j ρ => ∃ o2 o3 o4 o5 o6, ρ = [some (netD net), some (lisD L), some (dS .int ((net.take j).foldl relax2 (rounds net i L))), some (.int (0 + (i : Int))), o2, o3, o4, o5, o6]) (fun R hR => ?_) ⟨_, _, _, _, _, rfl⟩ ?_ ?_
    · simp only [sCells, sAsg, sSeq, sIf, sSet, sRet, sRetN, sNext, sBoxPut, sPar, setAll, sExprM, mMeth, tyD, tBool, tTru, tAndM, tOrM, tNotM, m1, m2, mN, mV, mC, mCall, mBoxI, aNil, aCons, mIf, mTup, mLst, mLk, hasD, mAndV, mOrV, pNotB, aSeq, itemsS, aRng1, aRng2, aRng3, gN, gsNil, gsCons, gSt, pSetL, pLenB, isD, pSl, pSlL, oNone, oSome, pEq_int, pNe_int, pLt_int, pGt_int, pLe_int, pGe_int, mChain, aEnum, aZip, mCount, List.set_cons_zero, List.set_cons_succ, List.getElem?_cons_zero, List.getElem?_cons_succ, List.length_cons, List.length_nil, if_true, if_false, Bool.false_eq_true, true_and, and_true, decide_eq_true_eq, wipeD, tTrue, List.map_cons, List.map_nil, natD, at20, at21, at30, at31, at32, Option.some.injEq, exists_eq_left', gT_t, pAddE_i, pAddE_s, pAddE_l, pAddE_t, pAdd_i, pAddL_l, pSub_i, pMod_i, pFdiv_i, pNeg_i, pTupOf_l, pListOf_l, pListOf_t, pMin_i, pMax_i, pIs_n, pIs_b, pIsNot_n, pIsNot_b, pInt1_i, pAbs_i, qAppend_l, qExtend_l, qExtend_t, pSum_i, pAny_b, pAll_b, pRev, pRevL, pSl, pIx_t, pIx_l, pLen_map, pLen_mapT, pLen_net, pLen_t, pLen_l, pLen_s, pIn_ss, pNotIn_ss, pIn_s3, pIx_s, pIx_fu0, pIx_fu1, pIx_fu2, pIx_p0, pIx_p1, gT_fu, pEq_fu, pNe_fu, pEq_str, pNe_str, pLt_str, pGt_str, pIn_fl, pIn_ft, pNotIn_fl, pNotIn_ft, pIn_sl, pIn_st, pNotIn_sl, pNotIn_st, pIn_s2, pIx_dS, pIn_dS, pNotIn_dS, pSetK_dS, pLen_dS, pIx_dF, pIn_dF, pNotIn_dF, pSetT_dF, pLen_dF, List.length_map, slD_fu, slD_t, slD_l, slD_s, truD_i, truD_b, truD_n, truD_l, truD_t, revDt_l, revDt_t, fuD_eq, itemsS_t, itemsS_l, seqD_l, seqD_t, seqD_s]; exact fun _ => hR
    · rintro j f _ hf ⟨o2, o3, o4, o5, o6, rfl⟩
      simp only [sCells, sAsg, sSeq, sIf, sSet, sRet, sRetN, sNext, sBoxPut, sPar, setAll, sExprM, mMeth, tyD, tBool, tTru, tAndM, tOrM, tNotM, m1, m2, mN, mV, mC, mCall, mBoxI, aNil, aCons, mIf, mTup, mLst, mLk, hasD, mAndV, mOrV, pNotB, aSeq, itemsS, aRng1, aRng2, aRng3, gN, gsNil, gsCons, gSt, pSetL, pLenB, isD, pSl, pSlL, oNone, oSome, pEq_int, pNe_int, pLt_int, pGt_int, pLe_int, pGe_int, mChain, aEnum, aZip, mCount, List.set_cons_zero, List.set_cons_succ, List.getElem?_cons_zero, List.getElem?_cons_succ, List.length_cons, List.length_nil, if_true, if_false, Bool.false_eq_true, true_and, and_true, decide_eq_true_eq, wipeD, tTrue, List.map_cons, List.map_nil, natD, at20, at21, at30, at31, at32, Option.some.injEq, exists_eq_left', gT_t, pAddE_i, pAddE_s, pAddE_l, pAddE_t, pAdd_i, pAddL_l, pSub_i, pMod_i, pFdiv_i, pNeg_i, pTupOf_l, pListOf_l, pListOf_t, pMin_i, pMax_i, pIs_n, pIs_b, pIsNot_n, pIsNot_b, pInt1_i, pAbs_i, qAppend_l, qExtend_l, qExtend_t, pSum_i, pAny_b, pAll_b, pRev, pRevL, pSl, pIx_t, pIx_l, pLen_map, pLen_mapT, pLen_net, pLen_t, pLen_l, pLen_s, pIn_ss, pNotIn_ss, pIn_s3, pIx_s, pIx_fu0, pIx_fu1, pIx_fu2, pIx_p0, pIx_p1, gT_fu, pEq_fu, pNe_fu, pEq_str, pNe_str, pLt_str, pGt_str, pIn_fl, pIn_ft, pNotIn_fl, pNotIn_ft, pIn_sl, pIn_st, pNotIn_sl, pNotIn_st, pIn_s2, pIx_dS, pIn_dS, pNotIn_dS, pSetK_dS, pLen_dS, pIx_dF, pIn_dF, pNotIn_dF, pSetT_dF, pLen_dF, List.length_map, slD_fu, slD_t, slD_l, slD_s, truD_i, truD_b, truD_n, truD_l, truD_t, revDt_l, revDt_t, fuD_eq, itemsS_t, itemsS_l, seqD_l, seqD_t, seqD_s]
      have hfm := List.mem_of_getElem? hf
      have S1 := round_snd (net := net) (net.take j) (rounds net i L) (fun g hg => List.mem_of_mem_take hg) (rounds_snd i S0)
      rw [List.take_add_one, hf]
      simp only [Option.toList_some, List.foldl_append, List.foldl_cons, List.foldl_nil]
      generalize (net.take j).foldl relax2 (rounds net i L) = es at S1 ⊢
      have one : ∀ (es : List (Str × Int)) (u v : Str), Snd net L es → ∀ (o4 o5 : Option D) (Q' : En → Prop), (Q' [some (netD net), some (lisD L), some (dS .int (relax es u v f.c)), some (.int (0 + (i : Int))), some (.str f.a), some (.str f.b), some (.int f.c), some (.str u), some (.str v)]) →
          if (aget es u).isSome = true then (if (!(aget es v).isSome) = true then ∃ w, aget es u = some w ∧ es.length < sizeLine ∧ Q' [some (netD net), some (lisD L), some (dS .int (aput es v (w + f.c))), some (.int (0 + (i : Int))), some (.str f.a), some (.str f.b), some (.int f.c), some (.str u), some (.str v)] else ∃ w, aget es u = some w ∧ ∃ x, aget es v = some x ∧ if w + f.c < x then (∃ w, aget es u = some w ∧ es.length < sizeLine ∧ Q' [some (netD net), some (lisD L), some (dS .int (aput es v (w + f.c))), some (.int (0 + (i : Int))), some (.str f.a), some (.str f.b), some (.int f.c), some (.str u), some (.str v)]) else Q' [some (netD net), some (lisD L), some (dS .int es), some (.int (0 + (i : Int))), some (.str f.a), some (.str f.b), some (.int f.c), some (.str u), some (.str v)])
          else Q' [some (netD net), some (lisD L), some (dS .int es), some (.int (0 + (i : Int))), some (.str f.a), some (.str f.b), some (.int f.c), some (.str u), some (.str v)] := by
        intro es u v S o4 o5 Q' hQ
        have hl := S.len hN hL
        unfold relax at hQ
        cases hu : aget es u with
        | none => rw [hu] at hQ; exact hQ
        | some t =>
          rw [hu] at hQ
          cases hv : aget es v with
          | none => rw [hv] at hQ; exact ⟨t, rfl, by rw [sizeLine_eq]; omega, hQ⟩
          | some b =>
            rw [hv] at hQ
            simp only at hQ
            refine ⟨t, rfl, b, rfl, ?_⟩
            by_cases c : t + f.c < b
            · rw [if_pos c]; rw [if_pos c] at hQ; exact ⟨t, rfl, by rw [sizeLine_eq]; omega, hQ⟩
            · rw [if_neg c]; rw [if_neg c] at hQ; exact hQ
      simp only [sFor]
      simp only [sCells, sAsg, sSeq, sIf, sSet, sRet, sRetN, sNext, sBoxPut, sPar, setAll, sExprM, mMeth, tyD, tBool, tTru, tAndM, tOrM, tNotM, m1, m2, mN, mV, mC, mCall, mBoxI, aNil, aCons, mIf, mTup, mLst, mLk, hasD, mAndV, mOrV, pNotB, aSeq, itemsS, aRng1, aRng2, aRng3, gN, gsNil, gsCons, gSt, pSetL, pLenB, isD, pSl, pSlL, oNone, oSome, pEq_int, pNe_int, pLt_int, pGt_int, pLe_int, pGe_int, mChain, aEnum, aZip, mCount, List.set_cons_zero, List.set_cons_succ, List.getElem?_cons_zero, List.getElem?_cons_succ, List.length_cons, List.length_nil, if_true, if_false, Bool.false_eq_true, true_and, and_true, decide_eq_true_eq, wipeD, tTrue, List.map_cons, List.map_nil, natD, at20, at21, at30, at31, at32, Option.some.injEq, exists_eq_left', gT_t, pAddE_i, pAddE_s, pAddE_l, pAddE_t, pAdd_i, pAddL_l, pSub_i, pMod_i, pFdiv_i, pNeg_i, pTupOf_l, pListOf_l, pListOf_t, pMin_i, pMax_i, pIs_n, pIs_b, pIsNot_n, pIsNot_b, pInt1_i, pAbs_i, qAppend_l, qExtend_l, qExtend_t, pSum_i, pAny_b, pAll_b, pRev, pRevL, pSl, pIx_t, pIx_l, pLen_map, pLen_mapT, pLen_net, pLen_t, pLen_l, pLen_s, pIn_ss, pNotIn_ss, pIn_s3, pIx_s, pIx_fu0, pIx_fu1, pIx_fu2, pIx_p0, pIx_p1, gT_fu, pEq_fu, pNe_fu, pEq_str, pNe_str, pLt_str, pGt_str, pIn_fl, pIn_ft, pNotIn_fl, pNotIn_ft, pIn_sl, pIn_st, pNotIn_sl, pNotIn_st, pIn_s2, pIx_dS, pIn_dS, pNotIn_dS, pSetK_dS, pLen_dS, pIx_dF, pIn_dF, pNotIn_dF, pSetT_dF, pLen_dF, List.length_map, slD_fu, slD_t, slD_l, slD_s, truD_i, truD_b, truD_n, truD_l, truD_t, revDt_l, revDt_t, fuD_eq, itemsS_t, itemsS_l, seqD_l, seqD_t, seqD_s]
      refine ⟨by decide, by decide, by decide, fun _ => ?_⟩
      refine sForD_go [(f.a, f.b), (f.b, f.a)] (fun p => .tuple [.str p.1, .str p.2]) (fun l ρ => ∃ o4 o5, ρ = [some (netD net), some (lisD L), some (dS .int (([(f.a, f.b), (f.b, f.a)].take l).foldl (fun es p => relax es p.1 p.2 f.c) es)), some (.int (0 + (i : Int))), some (.str f.a), some (.str f.b), some (.int f.c), o4, o5]) ⟨_, _, rfl⟩ ?_ ?_
      · rintro l ⟨u, v⟩ _ huv ⟨o4, o5, rfl⟩
        rw [List.take_add_one, huv]
        simp only [Option.toList_some, List.foldl_append, List.foldl_cons, List.foldl_nil]
        have S2 : Snd net L (([(f.a, f.b), (f.b, f.a)].take l).foldl (fun es p => relax es p.1 p.2 f.c) es) := by
          match l with
          | 0 => exact S1
          | 1 => exact S1.relax hfm (.inl ⟨rfl, rfl⟩)
          | _ + 2 => rw [List.take_of_length_le (by simp)]; exact (S1.relax hfm (.inl ⟨rfl, rfl⟩)).relax hfm (.inr ⟨rfl, rfl⟩)
        generalize ([(f.a, f.b), (f.b, f.a)].take l).foldl (fun es p => relax es p.1 p.2 f.c) es = es2 at S2 ⊢
        simp only [sCells, sAsg, sSeq, sIf, sSet, sRet, sRetN, sNext, sBoxPut, sPar, setAll, sExprM, mMeth, tyD, tBool, tTru, tAndM, tOrM, tNotM, m1, m2, mN, mV, mC, mCall, mBoxI, aNil, aCons, mIf, mTup, mLst, mLk, hasD, mAndV, mOrV, pNotB, aSeq, itemsS, aRng1, aRng2, aRng3, gN, gsNil, gsCons, gSt, pSetL, pLenB, isD, pSl, pSlL, oNone, oSome, pEq_int, pNe_int, pLt_int, pGt_int, pLe_int, pGe_int, mChain, aEnum, aZip, mCount, List.set_cons_zero, List.set_cons_succ, List.getElem?_cons_zero, List.getElem?_cons_succ, List.length_cons, List.length_nil, if_true, if_false, Bool.false_eq_true, true_and, and_true, decide_eq_true_eq, wipeD, tTrue, List.map_cons, List.map_nil, natD, at20, at21, at30, at31, at32, Option.some.injEq, exists_eq_left', gT_t, pAddE_i, pAddE_s, pAddE_l, pAddE_t, pAdd_i, pAddL_l, pSub_i, pMod_i, pFdiv_i, pNeg_i, pTupOf_l, pListOf_l, pListOf_t, pMin_i, pMax_i, pIs_n, pIs_b, pIsNot_n, pIsNot_b, pInt1_i, pAbs_i, qAppend_l, qExtend_l, qExtend_t, pSum_i, pAny_b, pAll_b, pRev, pRevL, pSl, pIx_t, pIx_l, pLen_map, pLen_mapT, pLen_net, pLen_t, pLen_l, pLen_s, pIn_ss, pNotIn_ss, pIn_s3, pIx_s, pIx_fu0, pIx_fu1, pIx_fu2, pIx_p0, pIx_p1, gT_fu, pEq_fu, pNe_fu, pEq_str, pNe_str, pLt_str, pGt_str, pIn_fl, pIn_ft, pNotIn_fl, pNotIn_ft, pIn_sl, pIn_st, pNotIn_sl, pNotIn_st, pIn_s2, pIx_dS, pIn_dS, pNotIn_dS, pSetK_dS, pLen_dS, pIx_dF, pIn_dF, pNotIn_dF, pSetT_dF, pLen_dF, List.length_map, slD_fu, slD_t, slD_l, slD_s, truD_i, truD_b, truD_n, truD_l, truD_t, revDt_l, revDt_t, fuD_eq, itemsS_t, itemsS_l, seqD_l, seqD_t, seqD_s]
        exact one es2 u v S2 none none (fun ρ => ∃ o4 o5, ρ = [some (netD net), some (lisD L), some (dS .int (relax es2 u v f.c)), some (.int (0 + (i : Int))), some (.str f.a), some (.str f.b), some (.int f.c), o4, o5]) ⟨_, _, rfl⟩
      · rintro _ ⟨o4, o5, rfl⟩
        exact ⟨_, _, _, _, _, rfl⟩
    · rintro _ ⟨o2, o3, o4, o5, o6, rfl⟩
      rw [List.take_length]
      exact ⟨_, _, _, _, _, _, rfl⟩
  · rintro _ ⟨o1, o2, o3, o4, o5, o6, rfl⟩
    rw [show ((net.length : Int) + 1 - 0).toNat = net.length + 1 by omega]
    exact h _ (rounds_burnt hN.pos hL.nn (by omega) hL.nd)
theorem ok__law_rest {f : Addr} {fd : FuncData} (F : Fun K "_law_rest" "_law_rest" s__law_rest f fd) (m_tuple : mg "tuple" = none) : FnOk P w K mg base CX0 1 f fd ["net", "cut"] (spD K 2 q__law_rest) := by
  have nd := sc__law_rest.nd
  refine fnD (φ := q__law_rest) F sc__law_rest i__law_rest rfl rfl (by decide) (fun cdv A outer s H E hr => (dss_one (ds_ret (de_bty r_tupOf (by rfl) m_tuple boot_tuple (dab_cons (db (de (df_lc [("fuse", 2)] [] ⟨by decide, by decide, by decide, by decide⟩ (by decide) rfl nd (di_seq (dq (w_v 0))) (blkOk_by (by kernel_rfl)) (fun _ _ _ _ _ => (w_gn 2 nd)) (fun _ _ _ _ _ => (dts_one (dt_cmpM (r_notIn (hu200 hr)) (w_v 2) (w_b 1)))) (fun _ _ _ _ _ => (w_v 2))))) dab_nil))))) ?_
  rintro ds Q hl ⟨net, cut, rfl, hn, h⟩
  rw [show startD ["net", "cut", "fuse"] ([netD net, netD cut].map some) = [some (netD net), some (netD cut), none] from rfl]
  simp only [sCells, sAsg, sSeq, sIf, sSet, sRet, sRetN, sNext, sBoxPut, sPar, setAll, sExprM, mMeth, tyD, tBool, tTru, tAndM, tOrM, tNotM, m1, m2, mN, mV, mC, mCall, mBoxI, aNil, aCons, mIf, mTup, mLst, mLk, hasD, mAndV, mOrV, pNotB, aSeq, itemsS, aRng1, aRng2, aRng3, gN, gsNil, gsCons, gSt, pSetL, pLenB, isD, pSl, pSlL, oNone, oSome, pEq_int, pNe_int, pLt_int, pGt_int, pLe_int, pGe_int, mChain, aEnum, aZip, mCount, List.set_cons_zero, List.set_cons_succ, List.getElem?_cons_zero, List.getElem?_cons_succ, List.length_cons, List.length_nil, if_true, if_false, Bool.false_eq_true, true_and, and_true, decide_eq_true_eq, wipeD, tTrue, List.map_cons, List.map_nil, natD, at20, at21, at30, at31, at32, Option.some.injEq, exists_eq_left', gT_t, pAddE_i, pAddE_s, pAddE_l, pAddE_t, pAdd_i, pAddL_l, pSub_i, pMod_i, pFdiv_i, pNeg_i, pTupOf_l, pListOf_l, pListOf_t, pMin_i, pMax_i, pIs_n, pIs_b, pIsNot_n, pIsNot_b, pInt1_i, pAbs_i, qAppend_l, qExtend_l, qExtend_t, pSum_i, pAny_b, pAll_b, pRev, pRevL, pSl, pIx_t, pIx_l, pLen_map, pLen_mapT, pLen_net, pLen_t, pLen_l, pLen_s, pIn_ss, pNotIn_ss, pIn_s3, pIx_s, pIx_fu0, pIx_fu1, pIx_fu2, pIx_p0, pIx_p1, gT_fu, pEq_fu, pNe_fu, pEq_str, pNe_str, pLt_str, pGt_str, pIn_fl, pIn_ft, pNotIn_fl, pNotIn_ft, pIn_sl, pIn_st, pNotIn_sl, pNotIn_st, pIn_s2, pIx_dS, pIn_dS, pNotIn_dS, pSetK_dS, pLen_dS, pIx_dF, pIn_dF, pNotIn_dF, pSetT_dF, pLen_dF, List.length_map, slD_fu, slD_t, slD_l, slD_s, truD_i, truD_b, truD_n, truD_l, truD_t, revDt_l, revDt_t, fuD_eq, itemsS_t, itemsS_l, seqD_l, seqD_t, seqD_s]
  refine mLc_filter net fuD fuD (fun f => !decide (f ∈ cut)) (fun R hR => ?_) (by rw [sizeLine_eq]; omega) (fun f hf P N hp hn => ?_) h
  · simp only [sCells, sAsg, sSeq, sIf, sSet, sRet, sRetN, sNext, sBoxPut, sPar, setAll, sExprM, mMeth, tyD, tBool, tTru, tAndM, tOrM, tNotM, m1, m2, mN, mV, mC, mCall, mBoxI, aNil, aCons, mIf, mTup, mLst, mLk, hasD, mAndV, mOrV, pNotB, aSeq, itemsS, aRng1, aRng2, aRng3, gN, gsNil, gsCons, gSt, pSetL, pLenB, isD, pSl, pSlL, oNone, oSome, pEq_int, pNe_int, pLt_int, pGt_int, pLe_int, pGe_int, mChain, aEnum, aZip, mCount, List.set_cons_zero, List.set_cons_succ, List.getElem?_cons_zero, List.getElem?_cons_succ, List.length_cons, List.length_nil, if_true, if_false, Bool.false_eq_true, true_and, and_true, decide_eq_true_eq, wipeD, tTrue, List.map_cons, List.map_nil, natD, at20, at21, at30, at31, at32, Option.some.injEq, exists_eq_left', gT_t, pAddE_i, pAddE_s, pAddE_l, pAddE_t, pAdd_i, pAddL_l, pSub_i, pMod_i, pFdiv_i, pNeg_i, pTupOf_l, pListOf_l, pListOf_t, pMin_i, pMax_i, pIs_n, pIs_b, pIsNot_n, pIsNot_b, pInt1_i, pAbs_i, qAppend_l, qExtend_l, qExtend_t, pSum_i, pAny_b, pAll_b, pRev, pRevL, pSl, pIx_t, pIx_l, pLen_map, pLen_mapT, pLen_net, pLen_t, pLen_l, pLen_s, pIn_ss, pNotIn_ss, pIn_s3, pIx_s, pIx_fu0, pIx_fu1, pIx_fu2, pIx_p0, pIx_p1, gT_fu, pEq_fu, pNe_fu, pEq_str, pNe_str, pLt_str, pGt_str, pIn_fl, pIn_ft, pNotIn_fl, pNotIn_ft, pIn_sl, pIn_st, pNotIn_sl, pNotIn_st, pIn_s2, pIx_dS, pIn_dS, pNotIn_dS, pSetK_dS, pLen_dS, pIx_dF, pIn_dF, pNotIn_dF, pSetT_dF, pLen_dF, List.length_map, slD_fu, slD_t, slD_l, slD_s, truD_i, truD_b, truD_n, truD_l, truD_t, revDt_l, revDt_t, fuD_eq, itemsS_t, itemsS_l, seqD_l, seqD_t, seqD_s]; exact fun _ => hR
  · simp only [sCells, sAsg, sSeq, sIf, sSet, sRet, sRetN, sNext, sBoxPut, sPar, setAll, sExprM, mMeth, tyD, tBool, tTru, tAndM, tOrM, tNotM, m1, m2, mN, mV, mC, mCall, mBoxI, aNil, aCons, mIf, mTup, mLst, mLk, hasD, mAndV, mOrV, pNotB, aSeq, itemsS, aRng1, aRng2, aRng3, gN, gsNil, gsCons, gSt, pSetL, pLenB, isD, pSl, pSlL, oNone, oSome, pEq_int, pNe_int, pLt_int, pGt_int, pLe_int, pGe_int, mChain, aEnum, aZip, mCount, List.set_cons_zero, List.set_cons_succ, List.getElem?_cons_zero, List.getElem?_cons_succ, List.length_cons, List.length_nil, if_true, if_false, Bool.false_eq_true, true_and, and_true, decide_eq_true_eq, wipeD, tTrue, List.map_cons, List.map_nil, natD, at20, at21, at30, at31, at32, Option.some.injEq, exists_eq_left', gT_t, pAddE_i, pAddE_s, pAddE_l, pAddE_t, pAdd_i, pAddL_l, pSub_i, pMod_i, pFdiv_i, pNeg_i, pTupOf_l, pListOf_l, pListOf_t, pMin_i, pMax_i, pIs_n, pIs_b, pIsNot_n, pIsNot_b, pInt1_i, pAbs_i, qAppend_l, qExtend_l, qExtend_t, pSum_i, pAny_b, pAll_b, pRev, pRevL, pSl, pIx_t, pIx_l, pLen_map, pLen_mapT, pLen_net, pLen_t, pLen_l, pLen_s, pIn_ss, pNotIn_ss, pIn_s3, pIx_s, pIx_fu0, pIx_fu1, pIx_fu2, pIx_p0, pIx_p1, gT_fu, pEq_fu, pNe_fu, pEq_str, pNe_str, pLt_str, pGt_str, pIn_fl, pIn_ft, pNotIn_fl, pNotIn_ft, pIn_sl, pIn_st, pNotIn_sl, pNotIn_st, pIn_s2, pIx_dS, pIn_dS, pNotIn_dS, pSetK_dS, pLen_dS, pIx_dF, pIn_dF, pNotIn_dF, pSetT_dF, pLen_dF, List.length_map, slD_fu, slD_t, slD_l, slD_s, truD_i, truD_b, truD_n, truD_l, truD_t, revDt_l, revDt_t, fuD_eq, itemsS_t, itemsS_l, seqD_l, seqD_t, seqD_s]
    by_cases e : f ∈ cut
    · rw [if_neg (by simp [e])]; exact hn (by simp [e])
    · rw [if_pos (by simp [e])]; exact hp (by simp [e])
theorem ok__law_sets {f : Addr} {fd : FuncData} (F : Fun K "_law_sets" "_law_sets" s__law_sets f fd) (m_len : mg "len" = none) (m_sorted : mg "sorted" = none) : FnOk P w K mg base CX0 1 f fd ["rows"] (spD K 1 q__law_sets) := by
  have nd := sc__law_sets.nd
  refine fnD (φ := q__law_sets) F sc__law_sets i__law_sets rfl rfl (by decide) (fun cdv A outer s H E hr => (dss_cons (w_set 1 nd (de (df_lst (dae_cons (de_tup dae_nil) dae_nil))))
 (dss_cons (ds_for [] (by decide) rfl (di_seq (dq (w_v 0))) (dgw (w_gn 2 nd))
 (dss_one (w_set 1 nd (de_binE r_addE (w_v 1) (de (df_lc [("row", 3)] [] ⟨by decide, by decide, by decide, by decide⟩ (by decide) rfl nd (di_seq (dq (w_v 1))) (blkOk_by (by kernel_rfl)) (fun _ _ _ _ _ => (w_gn 3 nd)) (fun _ _ _ _ _ => dts_nil) (fun _ _ _ _ _ => (de_binE r_addE (w_v 3) (de_tup (dae_cons (w_v 2) dae_nil))))))))) PassesOwn.never)
 (dss_one (ds_ret (de (df_lc [("pair", 4)] [] ⟨by decide, by decide, by decide, by decide⟩ (by decide) rfl nd (di_seq (dq (de (df_bi (r_sorted rfl (hu200 hr)) (by rfl) m_sorted boot_sorted (dab_cons (db (de (df_lc [("row", 3)] [] ⟨by decide, by decide, by decide, by decide⟩ (by decide) rfl nd (di_seq (dq (w_v 1))) (blkOk_by (by kernel_rfl)) (fun _ _ _ _ _ => (w_gn 3 nd)) (fun _ _ _ _ _ => dts_nil) (fun _ _ _ _ _ => (de_tup (dae_cons (de_bi r_len (by rfl) m_len boot_len (dab_cons (w_b 3) dab_nil)) (dae_cons (w_v 3) dae_nil))))))) dab_nil))))) (blkOk_by (by kernel_rfl)) (fun _ _ _ _ _ => (w_gn 4 nd)) (fun _ _ _ _ _ => dts_nil) (fun _ _ _ _ _ => (de_ix (hu200 hr) (w_b 4) de_int))))))))) ?_
  rintro ds Q hl ⟨ps, rfl, hn, h⟩
  rw [show startD ["rows", "found", "part", "row", "pair"] ([(.list (ps.map fuD))].map some) = [some ((.list (ps.map fuD))), none, none, none, none] from rfl]
  simp only [sCells, sAsg, sSeq, sIf, sSet, sRet, sRetN, sNext, sBoxPut, sPar, setAll, sExprM, mMeth, tyD, tBool, tTru, tAndM, tOrM, tNotM, m1, m2, mN, mV, mC, mCall, mBoxI, aNil, aCons, mIf, mTup, mLst, mLk, hasD, mAndV, mOrV, pNotB, aSeq, itemsS, aRng1, aRng2, aRng3, gN, gsNil, gsCons, gSt, pSetL, pLenB, isD, pSl, pSlL, oNone, oSome, pEq_int, pNe_int, pLt_int, pGt_int, pLe_int, pGe_int, mChain, aEnum, aZip, mCount, List.set_cons_zero, List.set_cons_succ, List.getElem?_cons_zero, List.getElem?_cons_succ, List.length_cons, List.length_nil, if_true, if_false, Bool.false_eq_true, true_and, and_true, decide_eq_true_eq, wipeD, tTrue, List.map_cons, List.map_nil, natD, at20, at21, at30, at31, at32, Option.some.injEq, exists_eq_left', gT_t, pAddE_i, pAddE_s, pAddE_l, pAddE_t, pAdd_i, pAddL_l, pSub_i, pMod_i, pFdiv_i, pNeg_i, pTupOf_l, pListOf_l, pListOf_t, pMin_i, pMax_i, pIs_n, pIs_b, pIsNot_n, pIsNot_b, pInt1_i, pAbs_i, qAppend_l, qExtend_l, qExtend_t, pSum_i, pAny_b, pAll_b, pRev, pRevL, pSl, pIx_t, pIx_l, pLen_map, pLen_mapT, pLen_net, pLen_t, pLen_l, pLen_s, pIn_ss, pNotIn_ss, pIn_s3, pIx_s, pIx_fu0, pIx_fu1, pIx_fu2, pIx_p0, pIx_p1, gT_fu, pEq_fu, pNe_fu, pEq_str, pNe_str, pLt_str, pGt_str, pIn_fl, pIn_ft, pNotIn_fl, pNotIn_ft, pIn_sl, pIn_st, pNotIn_sl, pNotIn_st, pIn_s2, pIx_dS, pIn_dS, pNotIn_dS, pSetK_dS, pLen_dS, pIx_dF, pIn_dF, pNotIn_dF, pSetT_dF, pLen_dF, List.length_map, slD_fu, slD_t, slD_l, slD_s, truD_i, truD_b, truD_n, truD_l, truD_t, revDt_l, revDt_t, fuD_eq, itemsS_t, itemsS_l, seqD_l, seqD_t, seqD_s]
  refine ⟨by decide, by decide, ?_⟩
  have hz : ∀ i, (subl (ps.take i)).length ≤ 1048576 := fun i => by rw [subl_len]; have := Nat.pow_le_pow_right (n := 2) (by decide) (show (ps.take i).length ≤ 20 by rw [List.length_take]; omega); simpa using this
  have hr : ∀ i, ∀ r ∈ subl (ps.take i), r.length ≤ 20 := fun i r hr => by
    have := ((subl_mem _ _).mp hr).length_le
    rw [List.length_take] at this; omega
  refine sFor_go ps fuD (fun i ρ => ∃ o, ρ = [some (.list (ps.map fuD)), some (.list ((subl (ps.take i)).map netD)), o, none, none]) (fun R hR => ?_) ⟨_, rfl⟩ ?_ ?_
  · simp only [sCells, sAsg, sSeq, sIf, sSet, sRet, sRetN, sNext, sBoxPut, sPar, setAll, sExprM, mMeth, tyD, tBool, tTru, tAndM, tOrM, tNotM, m1, m2, mN, mV, mC, mCall, mBoxI, aNil, aCons, mIf, mTup, mLst, mLk, hasD, mAndV, mOrV, pNotB, aSeq, itemsS, aRng1, aRng2, aRng3, gN, gsNil, gsCons, gSt, pSetL, pLenB, isD, pSl, pSlL, oNone, oSome, pEq_int, pNe_int, pLt_int, pGt_int, pLe_int, pGe_int, mChain, aEnum, aZip, mCount, List.set_cons_zero, List.set_cons_succ, List.getElem?_cons_zero, List.getElem?_cons_succ, List.length_cons, List.length_nil, if_true, if_false, Bool.false_eq_true, true_and, and_true, decide_eq_true_eq, wipeD, tTrue, List.map_cons, List.map_nil, natD, at20, at21, at30, at31, at32, Option.some.injEq, exists_eq_left', gT_t, pAddE_i, pAddE_s, pAddE_l, pAddE_t, pAdd_i, pAddL_l, pSub_i, pMod_i, pFdiv_i, pNeg_i, pTupOf_l, pListOf_l, pListOf_t, pMin_i, pMax_i, pIs_n, pIs_b, pIsNot_n, pIsNot_b, pInt1_i, pAbs_i, qAppend_l, qExtend_l, qExtend_t, pSum_i, pAny_b, pAll_b, pRev, pRevL, pSl, pIx_t, pIx_l, pLen_map, pLen_mapT, pLen_net, pLen_t, pLen_l, pLen_s, pIn_ss, pNotIn_ss, pIn_s3, pIx_s, pIx_fu0, pIx_fu1, pIx_fu2, pIx_p0, pIx_p1, gT_fu, pEq_fu, pNe_fu, pEq_str, pNe_str, pLt_str, pGt_str, pIn_fl, pIn_ft, pNotIn_fl, pNotIn_ft, pIn_sl, pIn_st, pNotIn_sl, pNotIn_st, pIn_s2, pIx_dS, pIn_dS, pNotIn_dS, pSetK_dS, pLen_dS, pIx_dF, pIn_dF, pNotIn_dF, pSetT_dF, pLen_dF, List.length_map, slD_fu, slD_t, slD_l, slD_s, truD_i, truD_b, truD_n, truD_l, truD_t, revDt_l, revDt_t, fuD_eq, itemsS_t, itemsS_l, seqD_l, seqD_t, seqD_s]; exact fun _ => hR
  · rintro i f _ hf ⟨o, rfl⟩
    simp only [sCells, sAsg, sSeq, sIf, sSet, sRet, sRetN, sNext, sBoxPut, sPar, setAll, sExprM, mMeth, tyD, tBool, tTru, tAndM, tOrM, tNotM, m1, m2, mN, mV, mC, mCall, mBoxI, aNil, aCons, mIf, mTup, mLst, mLk, hasD, mAndV, mOrV, pNotB, aSeq, itemsS, aRng1, aRng2, aRng3, gN, gsNil, gsCons, gSt, pSetL, pLenB, isD, pSl, pSlL, oNone, oSome, pEq_int, pNe_int, pLt_int, pGt_int, pLe_int, pGe_int, mChain, aEnum, aZip, mCount, List.set_cons_zero, List.set_cons_succ, List.getElem?_cons_zero, List.getElem?_cons_succ, List.length_cons, List.length_nil, if_true, if_false, Bool.false_eq_true, true_and, and_true, decide_eq_true_eq, wipeD, tTrue, List.map_cons, List.map_nil, natD, at20, at21, at30, at31, at32, Option.some.injEq, exists_eq_left', gT_t, pAddE_i, pAddE_s, pAddE_l, pAddE_t, pAdd_i, pAddL_l, pSub_i, pMod_i, pFdiv_i, pNeg_i, pTupOf_l, pListOf_l, pListOf_t, pMin_i, pMax_i, pIs_n, pIs_b, pIsNot_n, pIsNot_b, pInt1_i, pAbs_i, qAppend_l, qExtend_l, qExtend_t, pSum_i, pAny_b, pAll_b, pRev, pRevL, pSl, pIx_t, pIx_l, pLen_map, pLen_mapT, pLen_net, pLen_t, pLen_l, pLen_s, pIn_ss, pNotIn_ss, pIn_s3, pIx_s, pIx_fu0, pIx_fu1, pIx_fu2, pIx_p0, pIx_p1, gT_fu, pEq_fu, pNe_fu, pEq_str, pNe_str, pLt_str, pGt_str, pIn_fl, pIn_ft, pNotIn_fl, pNotIn_ft, pIn_sl, pIn_st, pNotIn_sl, pNotIn_st, pIn_s2, pIx_dS, pIn_dS, pNotIn_dS, pSetK_dS, pLen_dS, pIx_dF, pIn_dF, pNotIn_dF, pSetT_dF, pLen_dF, List.length_map, slD_fu, slD_t, slD_l, slD_s, truD_i, truD_b, truD_n, truD_l, truD_t, revDt_l, revDt_t, fuD_eq, itemsS_t, itemsS_l, seqD_l, seqD_t, seqD_s]
    have e : subl (ps.take (i + 1)) = subl (ps.take i) ++ (subl (ps.take i)).map fun row => row ++ [f] := by
      rw [List.take_add_one, hf]; exact subl_snoc _ _
    refine mLc_map (subl (ps.take i)) netD (fun r => netD (r ++ [f])) (fun R hR => ?_) (by rw [sizeLine_eq]; have := hz i; omega) (fun r hrm P N hp => ?_) ?_
    · simp only [sCells, sAsg, sSeq, sIf, sSet, sRet, sRetN, sNext, sBoxPut, sPar, setAll, sExprM, mMeth, tyD, tBool, tTru, tAndM, tOrM, tNotM, m1, m2, mN, mV, mC, mCall, mBoxI, aNil, aCons, mIf, mTup, mLst, mLk, hasD, mAndV, mOrV, pNotB, aSeq, itemsS, aRng1, aRng2, aRng3, gN, gsNil, gsCons, gSt, pSetL, pLenB, isD, pSl, pSlL, oNone, oSome, pEq_int, pNe_int, pLt_int, pGt_int, pLe_int, pGe_int, mChain, aEnum, aZip, mCount, List.set_cons_zero, List.set_cons_succ, List.getElem?_cons_zero, List.getElem?_cons_succ, List.length_cons, List.length_nil, if_true, if_false, Bool.false_eq_true, true_and, and_true, decide_eq_true_eq, wipeD, tTrue, List.map_cons, List.map_nil, natD, at20, at21, at30, at31, at32, Option.some.injEq, exists_eq_left', gT_t, pAddE_i, pAddE_s, pAddE_l, pAddE_t, pAdd_i, pAddL_l, pSub_i, pMod_i, pFdiv_i, pNeg_i, pTupOf_l, pListOf_l, pListOf_t, pMin_i, pMax_i, pIs_n, pIs_b, pIsNot_n, pIsNot_b, pInt1_i, pAbs_i, qAppend_l, qExtend_l, qExtend_t, pSum_i, pAny_b, pAll_b, pRev, pRevL, pSl, pIx_t, pIx_l, pLen_map, pLen_mapT, pLen_net, pLen_t, pLen_l, pLen_s, pIn_ss, pNotIn_ss, pIn_s3, pIx_s, pIx_fu0, pIx_fu1, pIx_fu2, pIx_p0, pIx_p1, gT_fu, pEq_fu, pNe_fu, pEq_str, pNe_str, pLt_str, pGt_str, pIn_fl, pIn_ft, pNotIn_fl, pNotIn_ft, pIn_sl, pIn_st, pNotIn_sl, pNotIn_st, pIn_s2, pIx_dS, pIn_dS, pNotIn_dS, pSetK_dS, pLen_dS, pIx_dF, pIn_dF, pNotIn_dF, pSetT_dF, pLen_dF, List.length_map, slD_fu, slD_t, slD_l, slD_s, truD_i, truD_b, truD_n, truD_l, truD_t, revDt_l, revDt_t, fuD_eq, itemsS_t, itemsS_l, seqD_l, seqD_t, seqD_s]; exact fun _ => hR
    · have := hr i r hrm
      simp only [sCells, sAsg, sSeq, sIf, sSet, sRet, sRetN, sNext, sBoxPut, sPar, setAll, sExprM, mMeth, tyD, tBool, tTru, tAndM, tOrM, tNotM, m1, m2, mN, mV, mC, mCall, mBoxI, aNil, aCons, mIf, mTup, mLst, mLk, hasD, mAndV, mOrV, pNotB, aSeq, itemsS, aRng1, aRng2, aRng3, gN, gsNil, gsCons, gSt, pSetL, pLenB, isD, pSl, pSlL, oNone, oSome, pEq_int, pNe_int, pLt_int, pGt_int, pLe_int, pGe_int, mChain, aEnum, aZip, mCount, List.set_cons_zero, List.set_cons_succ, List.getElem?_cons_zero, List.getElem?_cons_succ, List.length_cons, List.length_nil, if_true, if_false, Bool.false_eq_true, true_and, and_true, decide_eq_true_eq, wipeD, tTrue, List.map_cons, List.map_nil, natD, at20, at21, at30, at31, at32, Option.some.injEq, exists_eq_left', gT_t, pAddE_i, pAddE_s, pAddE_l, pAddE_t, pAdd_i, pAddL_l, pSub_i, pMod_i, pFdiv_i, pNeg_i, pTupOf_l, pListOf_l, pListOf_t, pMin_i, pMax_i, pIs_n, pIs_b, pIsNot_n, pIsNot_b, pInt1_i, pAbs_i, qAppend_l, qExtend_l, qExtend_t, pSum_i, pAny_b, pAll_b, pRev, pRevL, pSl, pIx_t, pIx_l, pLen_map, pLen_mapT, pLen_net, pLen_t, pLen_l, pLen_s, pIn_ss, pNotIn_ss, pIn_s3, pIx_s, pIx_fu0, pIx_fu1, pIx_fu2, pIx_p0, pIx_p1, gT_fu, pEq_fu, pNe_fu, pEq_str, pNe_str, pLt_str, pGt_str, pIn_fl, pIn_ft, pNotIn_fl, pNotIn_ft, pIn_sl, pIn_st, pNotIn_sl, pNotIn_st, pIn_s2, pIx_dS, pIn_dS, pNotIn_dS, pSetK_dS, pLen_dS, pIx_dF, pIn_dF, pNotIn_dF, pSetT_dF, pLen_dF, List.length_map, slD_fu, slD_t, slD_l, slD_s, truD_i, truD_b, truD_n, truD_l, truD_t, revDt_l, revDt_t, fuD_eq, itemsS_t, itemsS_l, seqD_l, seqD_t, seqD_s]
      refine ⟨by decide, by rw [sizeLine_eq]; omega, ?_⟩
      simp only [netD, List.map_append, List.map_cons, List.map_nil] at hp
      exact hp
    · simp only [sCells, sAsg, sSeq, sIf, sSet, sRet, sRetN, sNext, sBoxPut, sPar, setAll, sExprM, mMeth, tyD, tBool, tTru, tAndM, tOrM, tNotM, m1, m2, mN, mV, mC, mCall, mBoxI, aNil, aCons, mIf, mTup, mLst, mLk, hasD, mAndV, mOrV, pNotB, aSeq, itemsS, aRng1, aRng2, aRng3, gN, gsNil, gsCons, gSt, pSetL, pLenB, isD, pSl, pSlL, oNone, oSome, pEq_int, pNe_int, pLt_int, pGt_int, pLe_int, pGe_int, mChain, aEnum, aZip, mCount, List.set_cons_zero, List.set_cons_succ, List.getElem?_cons_zero, List.getElem?_cons_succ, List.length_cons, List.length_nil, if_true, if_false, Bool.false_eq_true, true_and, and_true, decide_eq_true_eq, wipeD, tTrue, List.map_cons, List.map_nil, natD, at20, at21, at30, at31, at32, Option.some.injEq, exists_eq_left', gT_t, pAddE_i, pAddE_s, pAddE_l, pAddE_t, pAdd_i, pAddL_l, pSub_i, pMod_i, pFdiv_i, pNeg_i, pTupOf_l, pListOf_l, pListOf_t, pMin_i, pMax_i, pIs_n, pIs_b, pIsNot_n, pIsNot_b, pInt1_i, pAbs_i, qAppend_l, qExtend_l, qExtend_t, pSum_i, pAny_b, pAll_b, pRev, pRevL, pSl, pIx_t, pIx_l, pLen_map, pLen_mapT, pLen_net, pLen_t, pLen_l, pLen_s, pIn_ss, pNotIn_ss, pIn_s3, pIx_s, pIx_fu0, pIx_fu1, pIx_fu2, pIx_p0, pIx_p1, gT_fu, pEq_fu, pNe_fu, pEq_str, pNe_str, pLt_str, pGt_str, pIn_fl, pIn_ft, pNotIn_fl, pNotIn_ft, pIn_sl, pIn_st, pNotIn_sl, pNotIn_st, pIn_s2, pIx_dS, pIn_dS, pNotIn_dS, pSetK_dS, pLen_dS, pIx_dF, pIn_dF, pNotIn_dF, pSetT_dF, pLen_dF, List.length_map, slD_fu, slD_t, slD_l, slD_s, truD_i, truD_b, truD_n, truD_l, truD_t, revDt_l, revDt_t, fuD_eq, itemsS_t, itemsS_l, seqD_l, seqD_t, seqD_s]
      rw [e]
      refine ⟨by rw [sizeLine_eq]; have := hz i; omega, some (fuD f), ?_⟩
      rw [List.map_append, List.map_map]; rfl
  · rintro _ ⟨o, rfl⟩
    rw [List.take_length]
    have hz' := hz ps.length
    have hr' := hr ps.length
    rw [List.take_length] at hz' hr'
    have e2 : ∀ p : Int × Tup Fu, Datum.toD p = .tuple [.int p.1, netD p.2.items] := fun p => rfl
    dsimp only
    refine mLc_map (srt ((subl ps).map fun r => ((r.length : Int), (⟨r⟩ : Tup Fu)))) (Datum.toD (α := Int × Tup Fu)) (fun p => netD p.2.items) (fun R hR => ?_) ?_ (fun p hp P N hq => ?_) ?_
    · simp only [sCells, sAsg, sSeq, sIf, sSet, sRet, sRetN, sNext, sBoxPut, sPar, setAll, sExprM, mMeth, tyD, tBool, tTru, tAndM, tOrM, tNotM, m1, m2, mN, mV, mC, mCall, mBoxI, aNil, aCons, mIf, mTup, mLst, mLk, hasD, mAndV, mOrV, pNotB, aSeq, itemsS, aRng1, aRng2, aRng3, gN, gsNil, gsCons, gSt, pSetL, pLenB, isD, pSl, pSlL, oNone, oSome, pEq_int, pNe_int, pLt_int, pGt_int, pLe_int, pGe_int, mChain, aEnum, aZip, mCount, List.set_cons_zero, List.set_cons_succ, List.getElem?_cons_zero, List.getElem?_cons_succ, List.length_cons, List.length_nil, if_true, if_false, Bool.false_eq_true, true_and, and_true, decide_eq_true_eq, wipeD, tTrue, List.map_cons, List.map_nil, natD, at20, at21, at30, at31, at32, Option.some.injEq, exists_eq_left', gT_t, pAddE_i, pAddE_s, pAddE_l, pAddE_t, pAdd_i, pAddL_l, pSub_i, pMod_i, pFdiv_i, pNeg_i, pTupOf_l, pListOf_l, pListOf_t, pMin_i, pMax_i, pIs_n, pIs_b, pIsNot_n, pIsNot_b, pInt1_i, pAbs_i, qAppend_l, qExtend_l, qExtend_t, pSum_i, pAny_b, pAll_b, pRev, pRevL, pSl, pIx_t, pIx_l, pLen_map, pLen_mapT, pLen_net, pLen_t, pLen_l, pLen_s, pIn_ss, pNotIn_ss, pIn_s3, pIx_s, pIx_fu0, pIx_fu1, pIx_fu2, pIx_p0, pIx_p1, gT_fu, pEq_fu, pNe_fu, pEq_str, pNe_str, pLt_str, pGt_str, pIn_fl, pIn_ft, pNotIn_fl, pNotIn_ft, pIn_sl, pIn_st, pNotIn_sl, pNotIn_st, pIn_s2, pIx_dS, pIn_dS, pNotIn_dS, pSetK_dS, pLen_dS, pIx_dF, pIn_dF, pNotIn_dF, pSetT_dF, pLen_dF, List.length_map, slD_fu, slD_t, slD_l, slD_s, truD_i, truD_b, truD_n, truD_l, truD_t, revDt_l, revDt_t, fuD_eq, itemsS_t, itemsS_l, seqD_l, seqD_t, seqD_s]
      refine mLc_map (subl ps) netD (fun r => Datum.toD (α := Int × Tup Fu) ((r.length : Int), (⟨r⟩ : Tup Fu))) (fun R hR => ?_) (by rw [sizeLine_eq]; omega) (fun r hrm P N hp => ?_) ?_
      · simp only [sCells, sAsg, sSeq, sIf, sSet, sRet, sRetN, sNext, sBoxPut, sPar, setAll, sExprM, mMeth, tyD, tBool, tTru, tAndM, tOrM, tNotM, m1, m2, mN, mV, mC, mCall, mBoxI, aNil, aCons, mIf, mTup, mLst, mLk, hasD, mAndV, mOrV, pNotB, aSeq, itemsS, aRng1, aRng2, aRng3, gN, gsNil, gsCons, gSt, pSetL, pLenB, isD, pSl, pSlL, oNone, oSome, pEq_int, pNe_int, pLt_int, pGt_int, pLe_int, pGe_int, mChain, aEnum, aZip, mCount, List.set_cons_zero, List.set_cons_succ, List.getElem?_cons_zero, List.getElem?_cons_succ, List.length_cons, List.length_nil, if_true, if_false, Bool.false_eq_true, true_and, and_true, decide_eq_true_eq, wipeD, tTrue, List.map_cons, List.map_nil, natD, at20, at21, at30, at31, at32, Option.some.injEq, exists_eq_left', gT_t, pAddE_i, pAddE_s, pAddE_l, pAddE_t, pAdd_i, pAddL_l, pSub_i, pMod_i, pFdiv_i, pNeg_i, pTupOf_l, pListOf_l, pListOf_t, pMin_i, pMax_i, pIs_n, pIs_b, pIsNot_n, pIsNot_b, pInt1_i, pAbs_i, qAppend_l, qExtend_l, qExtend_t, pSum_i, pAny_b, pAll_b, pRev, pRevL, pSl, pIx_t, pIx_l, pLen_map, pLen_mapT, pLen_net, pLen_t, pLen_l, pLen_s, pIn_ss, pNotIn_ss, pIn_s3, pIx_s, pIx_fu0, pIx_fu1, pIx_fu2, pIx_p0, pIx_p1, gT_fu, pEq_fu, pNe_fu, pEq_str, pNe_str, pLt_str, pGt_str, pIn_fl, pIn_ft, pNotIn_fl, pNotIn_ft, pIn_sl, pIn_st, pNotIn_sl, pNotIn_st, pIn_s2, pIx_dS, pIn_dS, pNotIn_dS, pSetK_dS, pLen_dS, pIx_dF, pIn_dF, pNotIn_dF, pSetT_dF, pLen_dF, List.length_map, slD_fu, slD_t, slD_l, slD_s, truD_i, truD_b, truD_n, truD_l, truD_t, revDt_l, revDt_t, fuD_eq, itemsS_t, itemsS_l, seqD_l, seqD_t, seqD_s]; exact fun _ => hR
      · simp only [sCells, sAsg, sSeq, sIf, sSet, sRet, sRetN, sNext, sBoxPut, sPar, setAll, sExprM, mMeth, tyD, tBool, tTru, tAndM, tOrM, tNotM, m1, m2, mN, mV, mC, mCall, mBoxI, aNil, aCons, mIf, mTup, mLst, mLk, hasD, mAndV, mOrV, pNotB, aSeq, itemsS, aRng1, aRng2, aRng3, gN, gsNil, gsCons, gSt, pSetL, pLenB, isD, pSl, pSlL, oNone, oSome, pEq_int, pNe_int, pLt_int, pGt_int, pLe_int, pGe_int, mChain, aEnum, aZip, mCount, List.set_cons_zero, List.set_cons_succ, List.getElem?_cons_zero, List.getElem?_cons_succ, List.length_cons, List.length_nil, if_true, if_false, Bool.false_eq_true, true_and, and_true, decide_eq_true_eq, wipeD, tTrue, List.map_cons, List.map_nil, natD, at20, at21, at30, at31, at32, Option.some.injEq, exists_eq_left', gT_t, pAddE_i, pAddE_s, pAddE_l, pAddE_t, pAdd_i, pAddL_l, pSub_i, pMod_i, pFdiv_i, pNeg_i, pTupOf_l, pListOf_l, pListOf_t, pMin_i, pMax_i, pIs_n, pIs_b, pIsNot_n, pIsNot_b, pInt1_i, pAbs_i, qAppend_l, qExtend_l, qExtend_t, pSum_i, pAny_b, pAll_b, pRev, pRevL, pSl, pIx_t, pIx_l, pLen_map, pLen_mapT, pLen_net, pLen_t, pLen_l, pLen_s, pIn_ss, pNotIn_ss, pIn_s3, pIx_s, pIx_fu0, pIx_fu1, pIx_fu2, pIx_p0, pIx_p1, gT_fu, pEq_fu, pNe_fu, pEq_str, pNe_str, pLt_str, pGt_str, pIn_fl, pIn_ft, pNotIn_fl, pNotIn_ft, pIn_sl, pIn_st, pNotIn_sl, pNotIn_st, pIn_s2, pIx_dS, pIn_dS, pNotIn_dS, pSetK_dS, pLen_dS, pIx_dF, pIn_dF, pNotIn_dF, pSetT_dF, pLen_dF, List.length_map, slD_fu, slD_t, slD_l, slD_s, truD_i, truD_b, truD_n, truD_l, truD_t, revDt_l, revDt_t, fuD_eq, itemsS_t, itemsS_l, seqD_l, seqD_t, seqD_s]; exact ⟨by decide, hp⟩
      · rw [show ((subl ps).map fun r => Datum.toD (α := Int × Tup Fu) ((r.length : Int), (⟨r⟩ : Tup Fu))) = ((subl ps).map fun r => ((r.length : Int), (⟨r⟩ : Tup Fu))).map Datum.toD by rw [List.map_map]; rfl]
        refine pSorted_list (by decide) ?_
        simp only [sCells, sAsg, sSeq, sIf, sSet, sRet, sRetN, sNext, sBoxPut, sPar, setAll, sExprM, mMeth, tyD, tBool, tTru, tAndM, tOrM, tNotM, m1, m2, mN, mV, mC, mCall, mBoxI, aNil, aCons, mIf, mTup, mLst, mLk, hasD, mAndV, mOrV, pNotB, aSeq, itemsS, aRng1, aRng2, aRng3, gN, gsNil, gsCons, gSt, pSetL, pLenB, isD, pSl, pSlL, oNone, oSome, pEq_int, pNe_int, pLt_int, pGt_int, pLe_int, pGe_int, mChain, aEnum, aZip, mCount, List.set_cons_zero, List.set_cons_succ, List.getElem?_cons_zero, List.getElem?_cons_succ, List.length_cons, List.length_nil, if_true, if_false, Bool.false_eq_true, true_and, and_true, decide_eq_true_eq, wipeD, tTrue, List.map_cons, List.map_nil, natD, at20, at21, at30, at31, at32, Option.some.injEq, exists_eq_left', gT_t, pAddE_i, pAddE_s, pAddE_l, pAddE_t, pAdd_i, pAddL_l, pSub_i, pMod_i, pFdiv_i, pNeg_i, pTupOf_l, pListOf_l, pListOf_t, pMin_i, pMax_i, pIs_n, pIs_b, pIsNot_n, pIsNot_b, pInt1_i, pAbs_i, qAppend_l, qExtend_l, qExtend_t, pSum_i, pAny_b, pAll_b, pRev, pRevL, pSl, pIx_t, pIx_l, pLen_map, pLen_mapT, pLen_net, pLen_t, pLen_l, pLen_s, pIn_ss, pNotIn_ss, pIn_s3, pIx_s, pIx_fu0, pIx_fu1, pIx_fu2, pIx_p0, pIx_p1, gT_fu, pEq_fu, pNe_fu, pEq_str, pNe_str, pLt_str, pGt_str, pIn_fl, pIn_ft, pNotIn_fl, pNotIn_ft, pIn_sl, pIn_st, pNotIn_sl, pNotIn_st, pIn_s2, pIx_dS, pIn_dS, pNotIn_dS, pSetK_dS, pLen_dS, pIx_dF, pIn_dF, pNotIn_dF, pSetT_dF, pLen_dF, List.length_map, slD_fu, slD_t, slD_l, slD_s, truD_i, truD_b, truD_n, truD_l, truD_t, revDt_l, revDt_t, fuD_eq, itemsS_t, itemsS_l, seqD_l, seqD_t, seqD_s]; exact fun _ => hR
    · rw [(srt_perm _).length_eq, List.length_map, sizeLine_eq]; omega
    · rw [e2]
      simp only [sCells, sAsg, sSeq, sIf, sSet, sRet, sRetN, sNext, sBoxPut, sPar, setAll, sExprM, mMeth, tyD, tBool, tTru, tAndM, tOrM, tNotM, m1, m2, mN, mV, mC, mCall, mBoxI, aNil, aCons, mIf, mTup, mLst, mLk, hasD, mAndV, mOrV, pNotB, aSeq, itemsS, aRng1, aRng2, aRng3, gN, gsNil, gsCons, gSt, pSetL, pLenB, isD, pSl, pSlL, oNone, oSome, pEq_int, pNe_int, pLt_int, pGt_int, pLe_int, pGe_int, mChain, aEnum, aZip, mCount, List.set_cons_zero, List.set_cons_succ, List.getElem?_cons_zero, List.getElem?_cons_succ, List.length_cons, List.length_nil, if_true, if_false, Bool.false_eq_true, true_and, and_true, decide_eq_true_eq, wipeD, tTrue, List.map_cons, List.map_nil, natD, at20, at21, at30, at31, at32, Option.some.injEq, exists_eq_left', gT_t, pAddE_i, pAddE_s, pAddE_l, pAddE_t, pAdd_i, pAddL_l, pSub_i, pMod_i, pFdiv_i, pNeg_i, pTupOf_l, pListOf_l, pListOf_t, pMin_i, pMax_i, pIs_n, pIs_b, pIsNot_n, pIsNot_b, pInt1_i, pAbs_i, qAppend_l, qExtend_l, qExtend_t, pSum_i, pAny_b, pAll_b, pRev, pRevL, pSl, pIx_t, pIx_l, pLen_map, pLen_mapT, pLen_net, pLen_t, pLen_l, pLen_s, pIn_ss, pNotIn_ss, pIn_s3, pIx_s, pIx_fu0, pIx_fu1, pIx_fu2, pIx_p0, pIx_p1, gT_fu, pEq_fu, pNe_fu, pEq_str, pNe_str, pLt_str, pGt_str, pIn_fl, pIn_ft, pNotIn_fl, pNotIn_ft, pIn_sl, pIn_st, pNotIn_sl, pNotIn_st, pIn_s2, pIx_dS, pIn_dS, pNotIn_dS, pSetK_dS, pLen_dS, pIx_dF, pIn_dF, pNotIn_dF, pSetT_dF, pLen_dF, List.length_map, slD_fu, slD_t, slD_l, slD_s, truD_i, truD_b, truD_n, truD_l, truD_t, revDt_l, revDt_t, fuD_eq, itemsS_t, itemsS_l, seqD_l, seqD_t, seqD_s]; exact hq
    · rw [List.map_map] at h; exact h
theorem ok_is_fuse {f : Addr} {fd : FuncData} (F : Fun K "is_fuse" "is_fuse" s_is_fuse f fd) (m_isinstance : mg "isinstance" = none) (m_len : mg "len" = none) (m_tuple : mg "tuple" = none) {u_LONGEST : Value} (c_LONGEST : mg "LONGEST" = some u_LONGEST) (r_LONGEST : RelV (.int (1000)) u_LONGEST) {f_is_number : Addr} {fd_is_number : FuncData} (F_is_number : Fun K "is_number" "is_number" s_is_number f_is_number fd_is_number) (g_is_number : mg "is_number" = some (.ref f_is_number)) (b_is_number : Binds K fd_is_number ["value", "least", "most"] []) (G_is_number : FnOk P w K mg base CX0 1 f_is_number fd_is_number ["value", "least", "most"] (spD K 3 q_is_number)) {f_is_name : Addr} {fd_is_name : FuncData} (F_is_name : Fun K "is_name" "is_name" s_is_name f_is_name fd_is_name) (g_is_name : mg "is_name" = some (.ref f_is_name)) (b_is_name : Binds K fd_is_name ["value"] []) (G_is_name : FnOk P w K mg base CX0 1 f_is_name fd_is_name ["value"] (spD K 1 q_is_name)) : FnOk P w K mg base CX0 2 f fd ["value"] (spD K 1 q_is_fuse) := by
  have nd := sc_is_fuse.nd
  refine fnD (φ := q_is_fuse) F sc_is_fuse i_is_fuse rfl rfl (by decide) (fun cdv A outer s H E hr => (dss_cons (ds_if (dt_w (dw_or (dt_not (dt_tru (db (de_isa (N := "tuple") (by decide) (w_b 0) (by rfl) m_isinstance (by rfl) m_tuple boot_tuple)))) (dw_or (dt_cmp (r_ne (hu200 hr)) (db (de_bi r_len (by rfl) m_len boot_len (dab_cons (w_b 0) dab_nil))) (db de_int)) (dw_or (dt_not (dt_tru (db (w_call G_is_name (hr.mono (by omega)) g_is_name F_is_name.kp b_is_name (dae_cons (de_ix (hu200 hr) (w_b 0) de_int) dae_nil))))) (dw_or1 (dt_not (dt_tru (db (w_call G_is_name (hr.mono (by omega)) g_is_name F_is_name.kp b_is_name (dae_cons (de_ix (hu200 hr) (w_b 0) de_int) dae_nil))))))))))
 (dss_one (ds_ret de_bl))
 dss_nil)
 (dss_one (ds_ret (de_and (de_cmp (r_lt (hu200 hr)) (db (de_ix (hu200 hr) (w_b 0) de_int)) (db (de_ix (hu200 hr) (w_b 0) de_int))) (de_one (w_call G_is_number (hr.mono (by omega)) g_is_number F_is_number.kp b_is_number (dae_cons (de_ix (hu200 hr) (w_b 0) de_int) (dae_cons de_int (dae_cons (de_gI (by rfl) c_LONGEST r_LONGEST) dae_nil)))))))))) ?_
  rintro ds Q hl ⟨d, rfl, hv, h⟩
  rw [show startD ["value"] ([d].map some) = [some (d)] from rfl]
  have fin : ∀ b : Bool, b = false → (Q (.bool b) → Q (.bool false)) := fun b e q => by rw [e] at q; exact q
  cases d with
  | tuple xs =>
    simp only [sCells, sAsg, sSeq, sIf, sSet, sRet, sRetN, sNext, sBoxPut, sPar, setAll, sExprM, mMeth, tyD, tBool, tTru, tAndM, tOrM, tNotM, m1, m2, mN, mV, mC, mCall, mBoxI, aNil, aCons, mIf, mTup, mLst, mLk, hasD, mAndV, mOrV, pNotB, aSeq, itemsS, aRng1, aRng2, aRng3, gN, gsNil, gsCons, gSt, pSetL, pLenB, isD, pSl, pSlL, oNone, oSome, pEq_int, pNe_int, pLt_int, pGt_int, pLe_int, pGe_int, mChain, aEnum, aZip, mCount, List.set_cons_zero, List.set_cons_succ, List.getElem?_cons_zero, List.getElem?_cons_succ, List.length_cons, List.length_nil, if_true, if_false, Bool.false_eq_true, true_and, and_true, decide_eq_true_eq, wipeD, tTrue, List.map_cons, List.map_nil, natD, at20, at21, at30, at31, at32, Option.some.injEq, exists_eq_left', gT_t, pAddE_i, pAddE_s, pAddE_l, pAddE_t, pAdd_i, pAddL_l, pSub_i, pMod_i, pFdiv_i, pNeg_i, pTupOf_l, pListOf_l, pListOf_t, pMin_i, pMax_i, pIs_n, pIs_b, pIsNot_n, pIsNot_b, pInt1_i, pAbs_i, qAppend_l, qExtend_l, qExtend_t, pSum_i, pAny_b, pAll_b, pRev, pRevL, pSl, pIx_t, pIx_l, pLen_map, pLen_mapT, pLen_net, pLen_t, pLen_l, pLen_s, pIn_ss, pNotIn_ss, pIn_s3, pIx_s, pIx_fu0, pIx_fu1, pIx_fu2, pIx_p0, pIx_p1, gT_fu, pEq_fu, pNe_fu, pEq_str, pNe_str, pLt_str, pGt_str, pIn_fl, pIn_ft, pNotIn_fl, pNotIn_ft, pIn_sl, pIn_st, pNotIn_sl, pNotIn_st, pIn_s2, pIx_dS, pIn_dS, pNotIn_dS, pSetK_dS, pLen_dS, pIx_dF, pIn_dF, pNotIn_dF, pSetT_dF, pLen_dF, List.length_map, slD_fu, slD_t, slD_l, slD_s, truD_i, truD_b, truD_n, truD_l, truD_t, revDt_l, revDt_t, fuD_eq, itemsS_t, itemsS_l, seqD_l, seqD_t, seqD_s, pIsa, tyN, isa_NoneType_tuple, isa_NoneType_list, isa_NoneType_bool, isa_NoneType_int, isa_NoneType_str, isa_NoneType_dict, isa_bool_tuple, isa_bool_list, isa_bool_bool, isa_bool_int, isa_bool_str, isa_bool_dict, isa_int_tuple, isa_int_list, isa_int_bool, isa_int_int, isa_int_str, isa_int_dict, isa_str_tuple, isa_str_list, isa_str_bool, isa_str_int, isa_str_str, isa_str_dict, isa_list_tuple, isa_list_list, isa_list_bool, isa_list_int, isa_list_str, isa_list_dict, isa_tuple_tuple, isa_tuple_list, isa_tuple_bool, isa_tuple_int, isa_tuple_str, isa_tuple_dict, isa_dict_tuple, isa_dict_list, isa_dict_bool, isa_dict_int, isa_dict_str, isa_dict_dict]
    rw [if_neg (by decide)]
    by_cases c0 : (xs.length : Int) = 3
    · rw [if_neg (by simp [c0])]
      obtain ⟨x, y, z, rfl⟩ : ∃ x y z, xs = [x, y, z] := by
        match xs, c0 with
        | [x, y, z], _ => exact ⟨x, y, z, rfl⟩
        | [], h => simp at h
        | [_], h => simp at h
        | [_, _], h => simp at h
        | _ :: _ :: _ :: _ :: _, h => simp at h; omega
      simp only [sCells, sAsg, sSeq, sIf, sSet, sRet, sRetN, sNext, sBoxPut, sPar, setAll, sExprM, mMeth, tyD, tBool, tTru, tAndM, tOrM, tNotM, m1, m2, mN, mV, mC, mCall, mBoxI, aNil, aCons, mIf, mTup, mLst, mLk, hasD, mAndV, mOrV, pNotB, aSeq, itemsS, aRng1, aRng2, aRng3, gN, gsNil, gsCons, gSt, pSetL, pLenB, isD, pSl, pSlL, oNone, oSome, pEq_int, pNe_int, pLt_int, pGt_int, pLe_int, pGe_int, mChain, aEnum, aZip, mCount, List.set_cons_zero, List.set_cons_succ, List.getElem?_cons_zero, List.getElem?_cons_succ, List.length_cons, List.length_nil, if_true, if_false, Bool.false_eq_true, true_and, and_true, decide_eq_true_eq, wipeD, tTrue, List.map_cons, List.map_nil, natD, at20, at21, at30, at31, at32, Option.some.injEq, exists_eq_left', gT_t, pAddE_i, pAddE_s, pAddE_l, pAddE_t, pAdd_i, pAddL_l, pSub_i, pMod_i, pFdiv_i, pNeg_i, pTupOf_l, pListOf_l, pListOf_t, pMin_i, pMax_i, pIs_n, pIs_b, pIsNot_n, pIsNot_b, pInt1_i, pAbs_i, qAppend_l, qExtend_l, qExtend_t, pSum_i, pAny_b, pAll_b, pRev, pRevL, pSl, pIx_t, pIx_l, pLen_map, pLen_mapT, pLen_net, pLen_t, pLen_l, pLen_s, pIn_ss, pNotIn_ss, pIn_s3, pIx_s, pIx_fu0, pIx_fu1, pIx_fu2, pIx_p0, pIx_p1, gT_fu, pEq_fu, pNe_fu, pEq_str, pNe_str, pLt_str, pGt_str, pIn_fl, pIn_ft, pNotIn_fl, pNotIn_ft, pIn_sl, pIn_st, pNotIn_sl, pNotIn_st, pIn_s2, pIx_dS, pIn_dS, pNotIn_dS, pSetK_dS, pLen_dS, pIx_dF, pIn_dF, pNotIn_dF, pSetT_dF, pLen_dF, List.length_map, slD_fu, slD_t, slD_l, slD_s, truD_i, truD_b, truD_n, truD_l, truD_t, revDt_l, revDt_t, fuD_eq, itemsS_t, itemsS_l, seqD_l, seqD_t, seqD_s, q_is_name]
      refine ⟨x, rfl, hv.mem (by simp), ?_⟩
      cases x with
      | str a =>
        by_cases c1 : nameS a = true
        · rw [if_neg (by rw [show isNameD (.str a) = true from c1]; decide)]
          refine ⟨y, rfl, hv.mem (by simp), ?_⟩
          cases y with
          | str b =>
            by_cases c2 : nameS b = true
            · rw [if_neg (by rw [show isNameD (.str b) = true from c2]; decide)]
              simp only [sCells, sAsg, sSeq, sIf, sSet, sRet, sRetN, sNext, sBoxPut, sPar, setAll, sExprM, mMeth, tyD, tBool, tTru, tAndM, tOrM, tNotM, m1, m2, mN, mV, mC, mCall, mBoxI, aNil, aCons, mIf, mTup, mLst, mLk, hasD, mAndV, mOrV, pNotB, aSeq, itemsS, aRng1, aRng2, aRng3, gN, gsNil, gsCons, gSt, pSetL, pLenB, isD, pSl, pSlL, oNone, oSome, pEq_int, pNe_int, pLt_int, pGt_int, pLe_int, pGe_int, mChain, aEnum, aZip, mCount, List.set_cons_zero, List.set_cons_succ, List.getElem?_cons_zero, List.getElem?_cons_succ, List.length_cons, List.length_nil, if_true, if_false, Bool.false_eq_true, true_and, and_true, decide_eq_true_eq, wipeD, tTrue, List.map_cons, List.map_nil, natD, at20, at21, at30, at31, at32, Option.some.injEq, exists_eq_left', gT_t, pAddE_i, pAddE_s, pAddE_l, pAddE_t, pAdd_i, pAddL_l, pSub_i, pMod_i, pFdiv_i, pNeg_i, pTupOf_l, pListOf_l, pListOf_t, pMin_i, pMax_i, pIs_n, pIs_b, pIsNot_n, pIsNot_b, pInt1_i, pAbs_i, qAppend_l, qExtend_l, qExtend_t, pSum_i, pAny_b, pAll_b, pRev, pRevL, pSl, pIx_t, pIx_l, pLen_map, pLen_mapT, pLen_net, pLen_t, pLen_l, pLen_s, pIn_ss, pNotIn_ss, pIn_s3, pIx_s, pIx_fu0, pIx_fu1, pIx_fu2, pIx_p0, pIx_p1, gT_fu, pEq_fu, pNe_fu, pEq_str, pNe_str, pLt_str, pGt_str, pIn_fl, pIn_ft, pNotIn_fl, pNotIn_ft, pIn_sl, pIn_st, pNotIn_sl, pNotIn_st, pIn_s2, pIx_dS, pIn_dS, pNotIn_dS, pSetK_dS, pLen_dS, pIx_dF, pIn_dF, pNotIn_dF, pSetT_dF, pLen_dF, List.length_map, slD_fu, slD_t, slD_l, slD_s, truD_i, truD_b, truD_n, truD_l, truD_t, revDt_l, revDt_t, fuD_eq, itemsS_t, itemsS_l, seqD_l, seqD_t, seqD_s, q_is_number]
              by_cases c3 : DatumOrd.lt a b = true
              · rw [if_pos c3]
                refine ⟨z, 1, 1000, rfl, (hv.mem (by simp)).pl, ?_⟩
                have h' : Q (.bool (nameS a && nameS b && DatumOrd.lt a b && isNumD 1 1000 z)) := h
                simpa [c1, c2, c3] using h'
              · rw [if_neg c3]
                have h' : Q (.bool (nameS a && nameS b && DatumOrd.lt a b && isNumD 1 1000 z)) := h
                exact fin _ (by simp [c3]) h'
            · rw [if_pos (by rw [show isNameD (.str b) = false from (Bool.not_eq_true _ ▸ c2 : nameS b = false)]; decide)]
              have h' : Q (.bool (nameS a && nameS b && DatumOrd.lt a b && isNumD 1 1000 z)) := h
              exact fin _ (by simp [c2]) h'
          | _ => rw [if_pos (by unfold isNameD; rfl)]; exact fin _ rfl h
        · rw [if_pos (by rw [show isNameD (.str a) = false from (Bool.not_eq_true _ ▸ c1 : nameS a = false)]; decide)]
          refine fin (isFuseD (.tuple [.str a, y, z])) ?_ h
          cases y <;> first | rfl | (show (nameS a && _ && _ && _) = false; simp [c1])
      | _ => rw [if_pos (by unfold isNameD; rfl)]; exact fin _ rfl h
    · rw [if_pos (by simp [c0])]
      refine fin (isFuseD (.tuple xs)) ?_ h
      unfold isFuseD
      split
      · rename_i e; injection e with e; rw [e] at c0; simp at c0
      · rfl
  | dict => exact absurd hv.pl (by simp [PyData.plain])
  | _ => simp only [sCells, sAsg, sSeq, sIf, sSet, sRet, sRetN, sNext, sBoxPut, sPar, setAll, sExprM, mMeth, tyD, tBool, tTru, tAndM, tOrM, tNotM, m1, m2, mN, mV, mC, mCall, mBoxI, aNil, aCons, mIf, mTup, mLst, mLk, hasD, mAndV, mOrV, pNotB, aSeq, itemsS, aRng1, aRng2, aRng3, gN, gsNil, gsCons, gSt, pSetL, pLenB, isD, pSl, pSlL, oNone, oSome, pEq_int, pNe_int, pLt_int, pGt_int, pLe_int, pGe_int, mChain, aEnum, aZip, mCount, List.set_cons_zero, List.set_cons_succ, List.getElem?_cons_zero, List.getElem?_cons_succ, List.length_cons, List.length_nil, if_true, if_false, Bool.false_eq_true, true_and, and_true, decide_eq_true_eq, wipeD, tTrue, List.map_cons, List.map_nil, natD, at20, at21, at30, at31, at32, Option.some.injEq, exists_eq_left', gT_t, pAddE_i, pAddE_s, pAddE_l, pAddE_t, pAdd_i, pAddL_l, pSub_i, pMod_i, pFdiv_i, pNeg_i, pTupOf_l, pListOf_l, pListOf_t, pMin_i, pMax_i, pIs_n, pIs_b, pIsNot_n, pIsNot_b, pInt1_i, pAbs_i, qAppend_l, qExtend_l, qExtend_t, pSum_i, pAny_b, pAll_b, pRev, pRevL, pSl, pIx_t, pIx_l, pLen_map, pLen_mapT, pLen_net, pLen_t, pLen_l, pLen_s, pIn_ss, pNotIn_ss, pIn_s3, pIx_s, pIx_fu0, pIx_fu1, pIx_fu2, pIx_p0, pIx_p1, gT_fu, pEq_fu, pNe_fu, pEq_str, pNe_str, pLt_str, pGt_str, pIn_fl, pIn_ft, pNotIn_fl, pNotIn_ft, pIn_sl, pIn_st, pNotIn_sl, pNotIn_st, pIn_s2, pIx_dS, pIn_dS, pNotIn_dS, pSetK_dS, pLen_dS, pIx_dF, pIn_dF, pNotIn_dF, pSetT_dF, pLen_dF, List.length_map, slD_fu, slD_t, slD_l, slD_s, truD_i, truD_b, truD_n, truD_l, truD_t, revDt_l, revDt_t, fuD_eq, itemsS_t, itemsS_l, seqD_l, seqD_t, seqD_s, pIsa, tyN, isa_NoneType_tuple, isa_NoneType_list, isa_NoneType_bool, isa_NoneType_int, isa_NoneType_str, isa_NoneType_dict, isa_bool_tuple, isa_bool_list, isa_bool_bool, isa_bool_int, isa_bool_str, isa_bool_dict, isa_int_tuple, isa_int_list, isa_int_bool, isa_int_int, isa_int_str, isa_int_dict, isa_str_tuple, isa_str_list, isa_str_bool, isa_str_int, isa_str_str, isa_str_dict, isa_list_tuple, isa_list_list, isa_list_bool, isa_list_int, isa_list_str, isa_list_dict, isa_tuple_tuple, isa_tuple_list, isa_tuple_bool, isa_tuple_int, isa_tuple_str, isa_tuple_dict, isa_dict_tuple, isa_dict_list, isa_dict_bool, isa_dict_int, isa_dict_str, isa_dict_dict]; rw [if_pos (by decide)]; exact h
theorem ok_burn_times {f : Addr} {fd : FuncData} (F : Fun K "burn_times" "burn_times" s_burn_times f fd) (m_dict : mg "dict" = none) (m_len : mg "len" = none) (m_min : mg "min" = none) {f_fuses_at : Addr} {fd_fuses_at : FuncData} (F_fuses_at : Fun K "fuses_at" "fuses_at" s_fuses_at f_fuses_at fd_fuses_at) (g_fuses_at : mg "fuses_at" = some (.ref f_fuses_at)) (b_fuses_at : Binds K fd_fuses_at ["net", "knot"] []) (G_fuses_at : FnOk P w K mg base CX0 1 f_fuses_at fd_fuses_at ["net", "knot"] (spD K 2 q_fuses_at)) {f_beyond : Addr} {fd_beyond : FuncData} (F_beyond : Fun K "beyond" "beyond" s_beyond f_beyond fd_beyond) (g_beyond : mg "beyond" = some (.ref f_beyond)) (b_beyond : Binds K fd_beyond ["fuse", "knot"] []) (G_beyond : FnOk P w K mg base CX0 1 f_beyond fd_beyond ["fuse", "knot"] (spD K 2 q_beyond)) : FnOk P w K mg base CX0 2 f fd ["net", "lights"] (spD K 2 q_burn_times) := by
  have nd := sc_burn_times.nd
  refine fnD (φ := q_burn_times) F sc_burn_times i_burn_times rfl rfl (by decide) (fun cdv A outer s H E hr => (dss_cons (ds_parT [2, 3] (slotsOk (by decide)) (by decide) rfl (dax_f (df_bty (r_dictP rfl) (by rfl) m_dict boot_dict (dab_cons (w_b 1) dab_nil)) (dax_f df_dnewK dax_nil)) (pgs_cons (pg_name (i := 2) nd rfl (by first | exact .inl rfl | exact .inr rfl)) (pgs_cons (pg_name (i := 3) nd rfl (by first | exact .inl rfl | exact .inr rfl)) pgs_nil)))
 (dss_cons (ds_while (dt_cmp (r_lt (hu200 hr)) (db (de_bi r_len (by rfl) m_len boot_len (dab_cons (w_b 3) dab_nil))) (db (de_bi r_len (by rfl) m_len boot_len (dab_cons (w_b 2) dab_nil))))
 (dss_cons (w_set 4 nd (de_ix (hu200 hr) (db (de_bi (r_min rfl (hu200 hr)) (by rfl) m_min boot_min (dab_cons (db (de (df_lk 2 [2] (by decide) (df_lcP [("knot", 7)] [] ⟨by decide, by decide, by decide, by decide⟩ (by decide) rfl nd (w_keys 2) (blkOk_by (by kernel_rfl)) (fun _ _ _ _ _ => (w_gn 7 nd)) (fun _ _ _ _ _ => (dts_one (dt_cmpM (r_notIn (hu200 hr)) (w_v 7) (w_b 3)))) (fun _ _ _ _ _ => (de_tup (dae_cons (de_ix (hu200 hr) (w_b 2) (w_v 7)) (dae_cons (w_v 7) dae_nil)))))))) dab_nil))) de_int))
 (dss_cons (ds_asgw (de_ix (hu200 hr) (w_b 2) (w_v 4)) (w_gsub 3 (set_dict (hu1 hr)) st_dictK (w_v 4)))
 (dss_one (ds_for [] (by decide) rfl (di_seq (dq (w_call G_fuses_at (hr.mono (by omega)) g_fuses_at F_fuses_at.kp b_fuses_at (dae_cons (w_v 0) (dae_cons (w_v 4) dae_nil))))) (dgw (w_gn 5 nd))
 (dss_cons (w_set 6 nd (w_call G_beyond (hr.mono (by omega)) g_beyond F_beyond.kp b_beyond (dae_cons (w_v 5) (dae_cons (w_v 4) dae_nil))))
 (dss_one (ds_if (dt_w (dw_or (dt_cmpM (r_notIn (hu200 hr)) (w_v 6) (w_b 2)) (dw_or1 (dt_cmp (r_lt (hu200 hr)) (db (de_binE r_addE (de_ix (hu200 hr) (w_b 2) (w_v 4)) (de_ix (hu200 hr) (w_b 5) de_int))) (db (de_ix (hu200 hr) (w_b 2) (w_v 6)))))))
 (dss_one (ds_asgw (de_binE r_addE (de_ix (hu200 hr) (w_b 2) (w_v 4)) (de_ix (hu200 hr) (w_b 5) de_int)) (w_gsub 2 (set_dict (hu1 hr)) st_dictK (w_v 6))))
 dss_nil))) PassesOwn.never)))) PassesOwn.never)
 (dss_one (w_retO 3))))) ?_
  rintro ds Q hl ⟨net, L, rfl, hN, hL, h⟩
  rw [show startD ["net", "lights", "best", "done", "here", "fuse", "there", "knot"] ([netD net, lisD L].map some) = [some (netD net), some (lisD L), none, none, none, none, none, none] from rfl]
  simp only [sCells, sAsg, sSeq, sIf, sSet, sRet, sRetN, sNext, sBoxPut, sPar, setAll, sExprM, mMeth, tyD, tBool, tTru, tAndM, tOrM, tNotM, m1, m2, mN, mV, mC, mCall, mBoxI, aNil, aCons, mIf, mTup, mLst, mLk, hasD, mAndV, mOrV, pNotB, aSeq, itemsS, aRng1, aRng2, aRng3, gN, gsNil, gsCons, gSt, pSetL, pLenB, isD, pSl, pSlL, oNone, oSome, pEq_int, pNe_int, pLt_int, pGt_int, pLe_int, pGe_int, mChain, aEnum, aZip, mCount, List.set_cons_zero, List.set_cons_succ, List.getElem?_cons_zero, List.getElem?_cons_succ, List.length_cons, List.length_nil, if_true, if_false, Bool.false_eq_true, true_and, and_true, decide_eq_true_eq, wipeD, tTrue, List.map_cons, List.map_nil, natD, at20, at21, at30, at31, at32, Option.some.injEq, exists_eq_left', gT_t, pAddE_i, pAddE_s, pAddE_l, pAddE_t, pAdd_i, pAddL_l, pSub_i, pMod_i, pFdiv_i, pNeg_i, pTupOf_l, pListOf_l, pListOf_t, pMin_i, pMax_i, pIs_n, pIs_b, pIsNot_n, pIsNot_b, pInt1_i, pAbs_i, qAppend_l, qExtend_l, qExtend_t, pSum_i, pAny_b, pAll_b, pRev, pRevL, pSl, pIx_t, pIx_l, pLen_map, pLen_mapT, pLen_net, pLen_t, pLen_l, pLen_s, pIn_ss, pNotIn_ss, pIn_s3, pIx_s, pIx_fu0, pIx_fu1, pIx_fu2, pIx_p0, pIx_p1, gT_fu, pEq_fu, pNe_fu, pEq_str, pNe_str, pLt_str, pGt_str, pIn_fl, pIn_ft, pNotIn_fl, pNotIn_ft, pIn_sl, pIn_st, pNotIn_sl, pNotIn_st, pIn_s2, pIx_dS, pIn_dS, pNotIn_dS, pSetK_dS, pLen_dS, pIx_dF, pIn_dF, pNotIn_dF, pSetT_dF, pLen_dF, List.length_map, slD_fu, slD_t, slD_l, slD_s, truD_i, truD_b, truD_n, truD_l, truD_t, revDt_l, revDt_t, fuD_eq, itemsS_t, itemsS_l, seqD_l, seqD_t, seqD_s]
  refine dict_lis L hL.nd ?_
  refine ⟨fun m ρ => ∃ best done o1 o2 o3, ρ = [some (netD net), some (lisD L), some (dS .int best), some (dS .int done), o1, o2, o3, none] ∧ m = (cand net L).length - done.length ∧ DJ net L best done, ⟨_, L, [], none, none, none, rfl, rfl, DJ.start hL.nd⟩, ?_⟩
  rintro m _ ⟨best, done, o1, o2, o3, rfl, rfl, J⟩
  have hb := J.blen
  have hd := J.le
  have hc : (cand net L).length ≤ 3000 := by rw [cand_len]; have := hN.len; have := hL.len; omega
  simp only [sCells, sAsg, sSeq, sIf, sSet, sRet, sRetN, sNext, sBoxPut, sPar, setAll, sExprM, mMeth, tyD, tBool, tTru, tAndM, tOrM, tNotM, m1, m2, mN, mV, mC, mCall, mBoxI, aNil, aCons, mIf, mTup, mLst, mLk, hasD, mAndV, mOrV, pNotB, aSeq, itemsS, aRng1, aRng2, aRng3, gN, gsNil, gsCons, gSt, pSetL, pLenB, isD, pSl, pSlL, oNone, oSome, pEq_int, pNe_int, pLt_int, pGt_int, pLe_int, pGe_int, mChain, aEnum, aZip, mCount, List.set_cons_zero, List.set_cons_succ, List.getElem?_cons_zero, List.getElem?_cons_succ, List.length_cons, List.length_nil, if_true, if_false, Bool.false_eq_true, true_and, and_true, decide_eq_true_eq, wipeD, tTrue, List.map_cons, List.map_nil, natD, at20, at21, at30, at31, at32, Option.some.injEq, exists_eq_left', gT_t, pAddE_i, pAddE_s, pAddE_l, pAddE_t, pAdd_i, pAddL_l, pSub_i, pMod_i, pFdiv_i, pNeg_i, pTupOf_l, pListOf_l, pListOf_t, pMin_i, pMax_i, pIs_n, pIs_b, pIsNot_n, pIsNot_b, pInt1_i, pAbs_i, qAppend_l, qExtend_l, qExtend_t, pSum_i, pAny_b, pAll_b, pRev, pRevL, pSl, pIx_t, pIx_l, pLen_map, pLen_mapT, pLen_net, pLen_t, pLen_l, pLen_s, pIn_ss, pNotIn_ss, pIn_s3, pIx_s, pIx_fu0, pIx_fu1, pIx_fu2, pIx_p0, pIx_p1, gT_fu, pEq_fu, pNe_fu, pEq_str, pNe_str, pLt_str, pGt_str, pIn_fl, pIn_ft, pNotIn_fl, pNotIn_ft, pIn_sl, pIn_st, pNotIn_sl, pNotIn_st, pIn_s2, pIx_dS, pIn_dS, pNotIn_dS, pSetK_dS, pLen_dS, pIx_dF, pIn_dF, pNotIn_dF, pSetT_dF, pLen_dF, List.length_map, slD_fu, slD_t, slD_l, slD_s, truD_i, truD_b, truD_n, truD_l, truD_t, revDt_l, revDt_t, fuD_eq, itemsS_t, itemsS_l, seqD_l, seqD_t, seqD_s]
  by_cases hlt : done.length < best.length
  · rw [if_pos (by omega)]
    refine ⟨⟨_, rfl⟩, ?_⟩
    refine mLc_go best (fun p => .str p.1) (fun p => if (aget done p.1).isSome = true then none else some (.tuple [.int p.2, .str p.1])) (fun R hR => ?_) (by rw [sizeLine_eq]; omega) (fun p hp P N hy hn => ?_) ?_
    · exact aKeys_dS .int (es := best) rfl (by rw [List.map_map]; exact hR)
    · simp only [sCells, sAsg, sSeq, sIf, sSet, sRet, sRetN, sNext, sBoxPut, sPar, setAll, sExprM, mMeth, tyD, tBool, tTru, tAndM, tOrM, tNotM, m1, m2, mN, mV, mC, mCall, mBoxI, aNil, aCons, mIf, mTup, mLst, mLk, hasD, mAndV, mOrV, pNotB, aSeq, itemsS, aRng1, aRng2, aRng3, gN, gsNil, gsCons, gSt, pSetL, pLenB, isD, pSl, pSlL, oNone, oSome, pEq_int, pNe_int, pLt_int, pGt_int, pLe_int, pGe_int, mChain, aEnum, aZip, mCount, List.set_cons_zero, List.set_cons_succ, List.getElem?_cons_zero, List.getElem?_cons_succ, List.length_cons, List.length_nil, if_true, if_false, Bool.false_eq_true, true_and, and_true, decide_eq_true_eq, wipeD, tTrue, List.map_cons, List.map_nil, natD, at20, at21, at30, at31, at32, Option.some.injEq, exists_eq_left', gT_t, pAddE_i, pAddE_s, pAddE_l, pAddE_t, pAdd_i, pAddL_l, pSub_i, pMod_i, pFdiv_i, pNeg_i, pTupOf_l, pListOf_l, pListOf_t, pMin_i, pMax_i, pIs_n, pIs_b, pIsNot_n, pIsNot_b, pInt1_i, pAbs_i, qAppend_l, qExtend_l, qExtend_t, pSum_i, pAny_b, pAll_b, pRev, pRevL, pSl, pIx_t, pIx_l, pLen_map, pLen_mapT, pLen_net, pLen_t, pLen_l, pLen_s, pIn_ss, pNotIn_ss, pIn_s3, pIx_s, pIx_fu0, pIx_fu1, pIx_fu2, pIx_p0, pIx_p1, gT_fu, pEq_fu, pNe_fu, pEq_str, pNe_str, pLt_str, pGt_str, pIn_fl, pIn_ft, pNotIn_fl, pNotIn_ft, pIn_sl, pIn_st, pNotIn_sl, pNotIn_st, pIn_s2, pIx_dS, pIn_dS, pNotIn_dS, pSetK_dS, pLen_dS, pIx_dF, pIn_dF, pNotIn_dF, pSetT_dF, pLen_dF, List.length_map, slD_fu, slD_t, slD_l, slD_s, truD_i, truD_b, truD_n, truD_l, truD_t, revDt_l, revDt_t, fuD_eq, itemsS_t, itemsS_l, seqD_l, seqD_t, seqD_s]
      cases hd : (aget done p.1).isSome with
      | true =>
        rw [hd] at hn
        exact hn rfl
      | false =>
        rw [hd] at hy
        refine ⟨p.2, aget_of_mem J.s.nd hp, by rw [sizeLine_eq]; omega, hy _ rfl⟩
    · have e : (best.filterMap fun p => if (aget done p.1).isSome = true then none else some (PyData.tuple [.int p.2, .str p.1])) = ((best.filter fun p => !(aget done p.1).isSome).map fun p => (p.2, p.1)).map (Datum.toD (α := Int × Str)) := by
        rw [List.map_map]
        have : ∀ l : List (Str × Int), (l.filterMap fun p => if (aget done p.1).isSome = true then none else some (PyData.tuple [.int p.2, .str p.1])) = (l.filter fun p => !(aget done p.1).isSome).map (Datum.toD (α := Int × Str) ∘ fun p => (p.2, p.1)) := fun l => by
          induction l with
          | nil => rfl
          | cons y l ih =>
            rw [List.filterMap_cons, List.filter_cons]
            cases h : (aget done y.1).isSome
            · simp only [Bool.not_false, if_true, Bool.false_eq_true, if_false, List.map_cons, ih]; rfl
            · simp only [Bool.not_true, if_true, Bool.false_eq_true, if_false, ih]
        exact this best
      rw [e]
      have hne : ((best.filter fun p => !(aget done p.1).isSome).map fun p => (p.2, p.1)) ≠ [] := by
        intro z
        have z2 := List.map_eq_nil_iff.mp z
        have := keys_len J.s.nd (fs := done) fun k t hk => by
          by_cases q : (aget done k).isSome = true
          · exact q
          · have hm : (k, t) ∈ best.filter fun p => !(aget done p.1).isSome := List.mem_filter.mpr ⟨aget_mem hk, by simpa using q⟩
            rw [z2] at hm; cases hm
        omega
      refine pMin_list (by decide) hne fun m hm => ?_
      obtain ⟨T, here⟩ := m
      have hmem := hm.1
      rw [List.mem_map] at hmem
      obtain ⟨⟨k, t⟩, hk1, hk2⟩ := hmem
      injection hk2 with e1 e2
      subst e1 e2
      rw [List.mem_filter] at hk1
      have hb1 : aget best k = some t := aget_of_mem J.s.nd hk1.1
      have hd1 : aget done k = none := by simpa using hk1.2
      have hmin : ∀ v t', aget best v = some t' → aget done v = none → t ≤ t' := fun v t' h1 h2 =>
        hm.fst (t', v) (List.mem_map.mpr ⟨(v, t'), List.mem_filter.mpr ⟨aget_mem h1, by rw [h2]; rfl⟩, rfl⟩)
      show pIx (.tuple [.int t, .str k]) _ _
      simp only [sCells, sAsg, sSeq, sIf, sSet, sRet, sRetN, sNext, sBoxPut, sPar, setAll, sExprM, mMeth, tyD, tBool, tTru, tAndM, tOrM, tNotM, m1, m2, mN, mV, mC, mCall, mBoxI, aNil, aCons, mIf, mTup, mLst, mLk, hasD, mAndV, mOrV, pNotB, aSeq, itemsS, aRng1, aRng2, aRng3, gN, gsNil, gsCons, gSt, pSetL, pLenB, isD, pSl, pSlL, oNone, oSome, pEq_int, pNe_int, pLt_int, pGt_int, pLe_int, pGe_int, mChain, aEnum, aZip, mCount, List.set_cons_zero, List.set_cons_succ, List.getElem?_cons_zero, List.getElem?_cons_succ, List.length_cons, List.length_nil, if_true, if_false, Bool.false_eq_true, true_and, and_true, decide_eq_true_eq, wipeD, tTrue, List.map_cons, List.map_nil, natD, at20, at21, at30, at31, at32, Option.some.injEq, exists_eq_left', gT_t, pAddE_i, pAddE_s, pAddE_l, pAddE_t, pAdd_i, pAddL_l, pSub_i, pMod_i, pFdiv_i, pNeg_i, pTupOf_l, pListOf_l, pListOf_t, pMin_i, pMax_i, pIs_n, pIs_b, pIsNot_n, pIsNot_b, pInt1_i, pAbs_i, qAppend_l, qExtend_l, qExtend_t, pSum_i, pAny_b, pAll_b, pRev, pRevL, pSl, pIx_t, pIx_l, pLen_map, pLen_mapT, pLen_net, pLen_t, pLen_l, pLen_s, pIn_ss, pNotIn_ss, pIn_s3, pIx_s, pIx_fu0, pIx_fu1, pIx_fu2, pIx_p0, pIx_p1, gT_fu, pEq_fu, pNe_fu, pEq_str, pNe_str, pLt_str, pGt_str, pIn_fl, pIn_ft, pNotIn_fl, pNotIn_ft, pIn_sl, pIn_st, pNotIn_sl, pNotIn_st, pIn_s2, pIx_dS, pIn_dS, pNotIn_dS, pSetK_dS, pLen_dS, pIx_dF, pIn_dF, pNotIn_dF, pSetT_dF, pLen_dF, List.length_map, slD_fu, slD_t, slD_l, slD_s, truD_i, truD_b, truD_n, truD_l, truD_t, revDt_l, revDt_t, fuD_eq, itemsS_t, itemsS_l, seqD_l, seqD_t, seqD_s]
      refine ⟨t, hb1, ?_⟩
      refine ⟨by rw [sizeLine_eq]; omega, ?_⟩
      have D0 := J.take hb1 hd1 hmin
      have hg : (aput done k t).length = done.length + 1 := J.grow hd1
      generalize hdn : aput done k t = done' at D0 hg ⊢
      refine sFor_go (atK net k) fuD (fun i ρ => ∃ best o1 o2, ρ = [some (netD net), some (lisD L), some (dS .int best), some (dS .int done'), some (.str k), o1, o2, none] ∧ DIn net L k t best done' ((atK net k).take i)) (fun R hR => ?_) ⟨best, o2, o3, rfl, D0⟩ ?_ ?_
      · simp only [sCells, sAsg, sSeq, sIf, sSet, sRet, sRetN, sNext, sBoxPut, sPar, setAll, sExprM, mMeth, tyD, tBool, tTru, tAndM, tOrM, tNotM, m1, m2, mN, mV, mC, mCall, mBoxI, aNil, aCons, mIf, mTup, mLst, mLk, hasD, mAndV, mOrV, pNotB, aSeq, itemsS, aRng1, aRng2, aRng3, gN, gsNil, gsCons, gSt, pSetL, pLenB, isD, pSl, pSlL, oNone, oSome, pEq_int, pNe_int, pLt_int, pGt_int, pLe_int, pGe_int, mChain, aEnum, aZip, mCount, List.set_cons_zero, List.set_cons_succ, List.getElem?_cons_zero, List.getElem?_cons_succ, List.length_cons, List.length_nil, if_true, if_false, Bool.false_eq_true, true_and, and_true, decide_eq_true_eq, wipeD, tTrue, List.map_cons, List.map_nil, natD, at20, at21, at30, at31, at32, Option.some.injEq, exists_eq_left', gT_t, pAddE_i, pAddE_s, pAddE_l, pAddE_t, pAdd_i, pAddL_l, pSub_i, pMod_i, pFdiv_i, pNeg_i, pTupOf_l, pListOf_l, pListOf_t, pMin_i, pMax_i, pIs_n, pIs_b, pIsNot_n, pIsNot_b, pInt1_i, pAbs_i, qAppend_l, qExtend_l, qExtend_t, pSum_i, pAny_b, pAll_b, pRev, pRevL, pSl, pIx_t, pIx_l, pLen_map, pLen_mapT, pLen_net, pLen_t, pLen_l, pLen_s, pIn_ss, pNotIn_ss, pIn_s3, pIx_s, pIx_fu0, pIx_fu1, pIx_fu2, pIx_p0, pIx_p1, gT_fu, pEq_fu, pNe_fu, pEq_str, pNe_str, pLt_str, pGt_str, pIn_fl, pIn_ft, pNotIn_fl, pNotIn_ft, pIn_sl, pIn_st, pNotIn_sl, pNotIn_st, pIn_s2, pIx_dS, pIn_dS, pNotIn_dS, pSetK_dS, pLen_dS, pIx_dF, pIn_dF, pNotIn_dF, pSetT_dF, pLen_dF, List.length_map, slD_fu, slD_t, slD_l, slD_s, truD_i, truD_b, truD_n, truD_l, truD_t, revDt_l, revDt_t, fuD_eq, itemsS_t, itemsS_l, seqD_l, seqD_t, seqD_s, q_fuses_at]
        exact ⟨net, k, rfl, hN.len, fun _ => hR⟩
      · rintro i f _ hf ⟨best, o1, o2, rfl, D1⟩
        have hfm : f ∈ net ∧ (k = f.a ∨ k = f.b) := by
          have := List.mem_of_getElem? hf
          unfold atK at this
          rw [List.mem_filter] at this
          exact ⟨this.1, of_decide_eq_true this.2⟩
        have hbk : aget best k = some t := D1.sub _ _ D1.hr
        have hbl : best.length ≤ 3000 := Nat.le_trans (Snd.cand_le D1.s.nd D1.cd) hc
        have D2 := D1.step hN.pos hfm.1 (othK_joins hfm.2) (fun v hv => othK_only hv)
        rw [show (atK net k).take i ++ [f] = (atK net k).take (i + 1) by rw [List.take_add_one, hf]; rfl] at D2
        simp only [sCells, sAsg, sSeq, sIf, sSet, sRet, sRetN, sNext, sBoxPut, sPar, setAll, sExprM, mMeth, tyD, tBool, tTru, tAndM, tOrM, tNotM, m1, m2, mN, mV, mC, mCall, mBoxI, aNil, aCons, mIf, mTup, mLst, mLk, hasD, mAndV, mOrV, pNotB, aSeq, itemsS, aRng1, aRng2, aRng3, gN, gsNil, gsCons, gSt, pSetL, pLenB, isD, pSl, pSlL, oNone, oSome, pEq_int, pNe_int, pLt_int, pGt_int, pLe_int, pGe_int, mChain, aEnum, aZip, mCount, List.set_cons_zero, List.set_cons_succ, List.getElem?_cons_zero, List.getElem?_cons_succ, List.length_cons, List.length_nil, if_true, if_false, Bool.false_eq_true, true_and, and_true, decide_eq_true_eq, wipeD, tTrue, List.map_cons, List.map_nil, natD, at20, at21, at30, at31, at32, Option.some.injEq, exists_eq_left', gT_t, pAddE_i, pAddE_s, pAddE_l, pAddE_t, pAdd_i, pAddL_l, pSub_i, pMod_i, pFdiv_i, pNeg_i, pTupOf_l, pListOf_l, pListOf_t, pMin_i, pMax_i, pIs_n, pIs_b, pIsNot_n, pIsNot_b, pInt1_i, pAbs_i, qAppend_l, qExtend_l, qExtend_t, pSum_i, pAny_b, pAll_b, pRev, pRevL, pSl, pIx_t, pIx_l, pLen_map, pLen_mapT, pLen_net, pLen_t, pLen_l, pLen_s, pIn_ss, pNotIn_ss, pIn_s3, pIx_s, pIx_fu0, pIx_fu1, pIx_fu2, pIx_p0, pIx_p1, gT_fu, pEq_fu, pNe_fu, pEq_str, pNe_str, pLt_str, pGt_str, pIn_fl, pIn_ft, pNotIn_fl, pNotIn_ft, pIn_sl, pIn_st, pNotIn_sl, pNotIn_st, pIn_s2, pIx_dS, pIn_dS, pNotIn_dS, pSetK_dS, pLen_dS, pIx_dF, pIn_dF, pNotIn_dF, pSetT_dF, pLen_dF, List.length_map, slD_fu, slD_t, slD_l, slD_s, truD_i, truD_b, truD_n, truD_l, truD_t, revDt_l, revDt_t, fuD_eq, itemsS_t, itemsS_l, seqD_l, seqD_t, seqD_s, q_beyond]
        refine ⟨f, k, rfl, ?_⟩
        unfold relax at D2
        rw [hbk] at D2
        cases ho : aget best (othK f k) with
        | none =>
          rw [ho] at D2
          simp only [Option.isSome_none, Bool.not_false, if_true]
          exact ⟨t, hbk, by rw [sizeLine_eq]; omega, _, _, _, rfl, D2⟩
        | some b =>
          rw [ho] at D2
          simp only [Option.isSome_some, Bool.not_true, Bool.false_eq_true, if_false]
          refine ⟨t, hbk, b, rfl, ?_⟩
          simp only at D2
          by_cases q : t + f.c < b
          · rw [if_pos q]
            rw [if_pos q] at D2
            exact ⟨t, hbk, by rw [sizeLine_eq]; omega, _, _, _, rfl, D2⟩
          · rw [if_neg q]
            rw [if_neg q] at D2
            exact ⟨_, _, _, rfl, D2⟩
      · rintro _ ⟨best, o1, o2, rfl, D1⟩
        refine ⟨_, ?_, best, done', _, _, _, rfl, rfl, ?_⟩
        · omega
        · rw [List.take_length] at D1
          exact D1.fin fun f hf hk => List.mem_filter.mpr ⟨hf, decide_eq_true hk⟩
  · rw [if_neg (by omega)]
    exact h _ (J.fin hlt) (by omega)
theorem ok__law_draw {f : Addr} {fd : FuncData} (F : Fun K "_law_draw" "_law_draw" s__law_draw f fd) (m_int : mg "int" = none) {f__law_load : Addr} {fd__law_load : FuncData} (F__law_load : Fun K "_law_load" "_law_load" s__law_load f__law_load fd__law_load) (g__law_load : mg "_law_load" = some (.ref f__law_load)) (b__law_load : Binds K fd__law_load ["box"] []) (G__law_load : FnOk P w K mg base CX0 1 f__law_load fd__law_load ["box"] (spB K boxK 0 fLoad)) : FnOk P w K mg base CX0 2 f fd ["box", "many"] (spB K boxK 1 fDraw) := by
  have nd := sc__law_draw.nd
  refine fnB (φ := fDraw) boxK_st F sc__law_draw i__law_draw rfl rfl (by decide) (fun cdv A outer s H E hr => (dss_cons (ds_if (dt_cmp (r_lt (hu200 hr)) (db (de_boxI 0 (by decide))) (w_b 1))
 (dss_one (ds_boxPut 0 (by decide) (w_callB 0 G__law_load (hr.mono (by omega)) g__law_load F__law_load.kp b__law_load dae_nil)))
 dss_nil)
 (dss_cons (w_set 2 nd (de_bin r_mod (db (de_bty r_int1 (by rfl) m_int boot_int (dab_cons (db (de_boxI 0 (by decide))) dab_nil))) (w_b 1)))
 (dss_cons (ds_boxPut 0 (by decide) (de_bin r_fdiv (db (de_boxI 0 (by decide))) (w_b 1)))
 (dss_one (ds_ret (w_v 2))))))) ?_
  rintro ds Q hl ⟨many, rfl, h1, h2, h3⟩
  rw [show startD ["box", "many", "digit"] (none :: [.int many].map some) = [none, some (.int many), none] from rfl]
  simp only [sCells, sAsg, sSeq, sIf, sSet, sRet, sRetN, sNext, sBoxPut, sPar, setAll, sExprM, mMeth, tyD, tBool, tTru, tAndM, tOrM, tNotM, m1, m2, mN, mV, mC, mCall, mBoxI, aNil, aCons, mIf, mTup, mLst, mLk, hasD, mAndV, mOrV, pNotB, pNeg, aSeq, seqD, itemsS, aRng1, aRng2, aRng3, gN, gT, gsNil, gsCons, gSt, pSetL, pSetK, pSetT, qAppend, pAddE, pAdd, pSub, pInt1, pMod, pFdiv, pIx, pLen, pLenB, pAny, pAll, pTupOf, pListOf, pIs, pIsNot, isD, pSl, pSlL, oNone, oSome, pEq_int, pNe_int, pLt_int, pGt_int, pLe_int, pGe_int, mChain, pRev, pRevL, aEnum, aZip, pUpper, mCount, List.set_cons_zero, List.set_cons_succ, List.getElem?_cons_zero, List.getElem?_cons_succ, List.length_cons, List.length_nil, if_true, if_false, Bool.false_eq_true, true_and, and_true, decide_eq_true_eq, wipeD, tTrue, List.map_cons, List.map_nil, natD, at20, at21, at30, at31, at32, Option.some.injEq, exists_eq_left']
  have hf : ∀ n : Int, Q (.int (n % many)) := fun n => h3 _ (Int.emod_nonneg _ (by omega)) (Int.emod_lt_of_pos _ h1)
  simp [fLoad, hf, h1, h2]
theorem ok__law_begin {f : Addr} {fd : FuncData} (F : Fun K "_law_begin" "_law_begin" s__law_begin f fd) (m_min : mg "min" = none) {f__law_times : Addr} {fd__law_times : FuncData} (F__law_times : Fun K "_law_times" "_law_times" s__law_times f__law_times fd__law_times) (g__law_times : mg "_law_times" = some (.ref f__law_times)) (b__law_times : Binds K fd__law_times ["net", "lights"] []) (G__law_times : FnOk P w K mg base CX0 1 f__law_times fd__law_times ["net", "lights"] (spD K 2 q__law_times)) : FnOk P w K mg base CX0 2 f fd ["net", "lights", "fuse"] (spD K 3 q__law_begin) := by
  have nd := sc__law_begin.nd
  refine fnD (φ := q__law_begin) F sc__law_begin i__law_begin rfl rfl (by decide) (fun cdv A outer s H E hr => (dss_cons (w_set 3 nd (w_call G__law_times (hr.mono (by omega)) g__law_times F__law_times.kp b__law_times (dae_cons (w_v 0) (dae_cons (w_v 1) dae_nil))))
 (dss_one (ds_ret (de_if (dt_cmpM (r_in (hu200 hr)) (de_ix (hu200 hr) (w_b 2) de_int) (w_b 3)) (de_bi (r_min rfl (hu200 hr)) (by rfl) m_min boot_min (dab_cons (db (de_ix (hu200 hr) (w_b 3) (de_ix (hu200 hr) (w_b 2) de_int))) (dab_cons (db (de_ix (hu200 hr) (w_b 3) (de_ix (hu200 hr) (w_b 2) de_int))) dab_nil))) de_non))))) ?_
  rintro ds Q hl ⟨net, L, f, rfl, hN, hL, hf, h⟩
  rw [show startD ["net", "lights", "fuse", "found"] ([netD net, lisD L, fuD f].map some) = [some (netD net), some (lisD L), some (fuD f), none] from rfl]
  simp only [sCells, sAsg, sSeq, sIf, sSet, sRet, sRetN, sNext, sBoxPut, sPar, setAll, sExprM, mMeth, tyD, tBool, tTru, tAndM, tOrM, tNotM, m1, m2, mN, mV, mC, mCall, mBoxI, aNil, aCons, mIf, mTup, mLst, mLk, hasD, mAndV, mOrV, pNotB, aSeq, itemsS, aRng1, aRng2, aRng3, gN, gsNil, gsCons, gSt, pSetL, pLenB, isD, pSl, pSlL, oNone, oSome, pEq_int, pNe_int, pLt_int, pGt_int, pLe_int, pGe_int, mChain, aEnum, aZip, mCount, List.set_cons_zero, List.set_cons_succ, List.getElem?_cons_zero, List.getElem?_cons_succ, List.length_cons, List.length_nil, if_true, if_false, Bool.false_eq_true, true_and, and_true, decide_eq_true_eq, wipeD, tTrue, List.map_cons, List.map_nil, natD, at20, at21, at30, at31, at32, Option.some.injEq, exists_eq_left', gT_t, pAddE_i, pAddE_s, pAddE_l, pAddE_t, pAdd_i, pAddL_l, pSub_i, pMod_i, pFdiv_i, pNeg_i, pTupOf_l, pListOf_l, pListOf_t, pMin_i, pMax_i, pIs_n, pIs_b, pIsNot_n, pIsNot_b, pInt1_i, pAbs_i, qAppend_l, qExtend_l, qExtend_t, pSum_i, pAny_b, pAll_b, pRev, pRevL, pSl, pIx_t, pIx_l, pLen_map, pLen_mapT, pLen_net, pLen_t, pLen_l, pLen_s, pIn_ss, pNotIn_ss, pIn_s3, pIx_s, pIx_fu0, pIx_fu1, pIx_fu2, pIx_p0, pIx_p1, gT_fu, pEq_fu, pNe_fu, pEq_str, pNe_str, pLt_str, pGt_str, pIn_fl, pIn_ft, pNotIn_fl, pNotIn_ft, pIn_sl, pIn_st, pNotIn_sl, pNotIn_st, pIn_s2, pIx_dS, pIn_dS, pNotIn_dS, pSetK_dS, pLen_dS, pIx_dF, pIn_dF, pNotIn_dF, pSetT_dF, pLen_dF, List.length_map, slD_fu, slD_t, slD_l, slD_s, truD_i, truD_b, truD_n, truD_l, truD_t, revDt_l, revDt_t, fuD_eq, itemsS_t, itemsS_l, seqD_l, seqD_t, seqD_s, q__law_times]
  refine ⟨net, L, rfl, hN, hL, fun es B => ?_⟩
  rw [B.tm hN hL, B.tm hN hL]
  have hab := tm_ab hN hL hf
  unfold bgn at h
  cases ea : tm net L f.a with
  | none => rw [ea] at h; exact h
  | some t =>
    rw [ea] at hab h
    cases eb : tm net L f.b with
    | none => rw [eb] at hab; cases hab
    | some u =>
      rw [eb] at h
      simp only [Option.isSome_some, if_true]
      exact ⟨t, rfl, u, rfl, h⟩
theorem ok__law_saved {f : Addr} {fd : FuncData} (F : Fun K "_law_saved" "_law_saved" s__law_saved f fd) (m_sum : mg "sum" = none) {f__law_times : Addr} {fd__law_times : FuncData} (F__law_times : Fun K "_law_times" "_law_times" s__law_times f__law_times fd__law_times) (g__law_times : mg "_law_times" = some (.ref f__law_times)) (b__law_times : Binds K fd__law_times ["net", "lights"] []) (G__law_times : FnOk P w K mg base CX0 1 f__law_times fd__law_times ["net", "lights"] (spD K 2 q__law_times)) {f__law_rest : Addr} {fd__law_rest : FuncData} (F__law_rest : Fun K "_law_rest" "_law_rest" s__law_rest f__law_rest fd__law_rest) (g__law_rest : mg "_law_rest" = some (.ref f__law_rest)) (b__law_rest : Binds K fd__law_rest ["net", "cut"] []) (G__law_rest : FnOk P w K mg base CX0 1 f__law_rest fd__law_rest ["net", "cut"] (spD K 2 q__law_rest)) : FnOk P w K mg base CX0 2 f fd ["net", "lights", "cut"] (spD K 3 q__law_saved) := by
  have nd := sc__law_saved.nd
  refine fnD (φ := q__law_saved) F sc__law_saved i__law_saved rfl rfl (by decide) (fun cdv A outer s H E hr => (dss_cons (w_set 3 nd (w_call G__law_times (hr.mono (by omega)) g__law_times F__law_times.kp b__law_times (dae_cons (w_call G__law_rest (hr.mono (by omega)) g__law_rest F__law_rest.kp b__law_rest (dae_cons (w_v 0) (dae_cons (w_v 2) dae_nil))) (dae_cons (w_v 1) dae_nil))))
 (dss_one (ds_ret (de_bi (r_sum rfl) (by rfl) m_sum boot_sum (dab_cons (db (de (df_lc [("fuse", 4)] [] ⟨by decide, by decide, by decide, by decide⟩ (by decide) rfl nd (di_seq (dq (w_v 0))) (blkOk_by (by kernel_rfl)) (fun _ _ _ _ _ => (w_gn 4 nd)) (fun _ _ _ _ _ => (dts_one (dt_w (dw_or (dt_cmpM (r_in (hu200 hr)) (w_v 4) (w_b 2)) (dw_or1 (dt_cmpM (r_notIn (hu200 hr)) (de_ix (hu200 hr) (w_b 4) de_int) (w_b 3))))))) (fun _ _ _ _ _ => (de_ix (hu200 hr) (w_b 4) de_int))))) dab_nil)))))) ?_
  rintro ds Q hl ⟨net, L, cut, rfl, hN, hL, h⟩
  rw [show startD ["net", "lights", "cut", "found", "fuse"] ([netD net, lisD L, netD cut].map some) = [some (netD net), some (lisD L), some (netD cut), none, none] from rfl]
  have hz := hN.len
  simp only [sCells, sAsg, sSeq, sIf, sSet, sRet, sRetN, sNext, sBoxPut, sPar, setAll, sExprM, mMeth, tyD, tBool, tTru, tAndM, tOrM, tNotM, m1, m2, mN, mV, mC, mCall, mBoxI, aNil, aCons, mIf, mTup, mLst, mLk, hasD, mAndV, mOrV, pNotB, aSeq, itemsS, aRng1, aRng2, aRng3, gN, gsNil, gsCons, gSt, pSetL, pLenB, isD, pSl, pSlL, oNone, oSome, pEq_int, pNe_int, pLt_int, pGt_int, pLe_int, pGe_int, mChain, aEnum, aZip, mCount, List.set_cons_zero, List.set_cons_succ, List.getElem?_cons_zero, List.getElem?_cons_succ, List.length_cons, List.length_nil, if_true, if_false, Bool.false_eq_true, true_and, and_true, decide_eq_true_eq, wipeD, tTrue, List.map_cons, List.map_nil, natD, at20, at21, at30, at31, at32, Option.some.injEq, exists_eq_left', gT_t, pAddE_i, pAddE_s, pAddE_l, pAddE_t, pAdd_i, pAddL_l, pSub_i, pMod_i, pFdiv_i, pNeg_i, pTupOf_l, pListOf_l, pListOf_t, pMin_i, pMax_i, pIs_n, pIs_b, pIsNot_n, pIsNot_b, pInt1_i, pAbs_i, qAppend_l, qExtend_l, qExtend_t, pSum_i, pAny_b, pAll_b, pRev, pRevL, pSl, pIx_t, pIx_l, pLen_map, pLen_mapT, pLen_net, pLen_t, pLen_l, pLen_s, pIn_ss, pNotIn_ss, pIn_s3, pIx_s, pIx_fu0, pIx_fu1, pIx_fu2, pIx_p0, pIx_p1, gT_fu, pEq_fu, pNe_fu, pEq_str, pNe_str, pLt_str, pGt_str, pIn_fl, pIn_ft, pNotIn_fl, pNotIn_ft, pIn_sl, pIn_st, pNotIn_sl, pNotIn_st, pIn_s2, pIx_dS, pIn_dS, pNotIn_dS, pSetK_dS, pLen_dS, pIx_dF, pIn_dF, pNotIn_dF, pSetT_dF, pLen_dF, List.length_map, slD_fu, slD_t, slD_l, slD_s, truD_i, truD_b, truD_n, truD_l, truD_t, revDt_l, revDt_t, fuD_eq, itemsS_t, itemsS_l, seqD_l, seqD_t, seqD_s, q__law_rest, q_net_without]
  refine ⟨net, cut, rfl, hN.len, ?_⟩
  simp only [q__law_times]
  refine ⟨_, L, rfl, hN.filter _, hL, fun es B => ?_⟩
  refine mLc_filter net fuD (fun f => .int f.c) (fun f => decide (f ∈ cut) || !(tm (woF net cut) L f.a).isSome) (fun R hR => ?_) (by rw [sizeLine_eq]; omega) (fun f hf P N hp hn => ?_) ?_
  · simp only [sCells, sAsg, sSeq, sIf, sSet, sRet, sRetN, sNext, sBoxPut, sPar, setAll, sExprM, mMeth, tyD, tBool, tTru, tAndM, tOrM, tNotM, m1, m2, mN, mV, mC, mCall, mBoxI, aNil, aCons, mIf, mTup, mLst, mLk, hasD, mAndV, mOrV, pNotB, aSeq, itemsS, aRng1, aRng2, aRng3, gN, gsNil, gsCons, gSt, pSetL, pLenB, isD, pSl, pSlL, oNone, oSome, pEq_int, pNe_int, pLt_int, pGt_int, pLe_int, pGe_int, mChain, aEnum, aZip, mCount, List.set_cons_zero, List.set_cons_succ, List.getElem?_cons_zero, List.getElem?_cons_succ, List.length_cons, List.length_nil, if_true, if_false, Bool.false_eq_true, true_and, and_true, decide_eq_true_eq, wipeD, tTrue, List.map_cons, List.map_nil, natD, at20, at21, at30, at31, at32, Option.some.injEq, exists_eq_left', gT_t, pAddE_i, pAddE_s, pAddE_l, pAddE_t, pAdd_i, pAddL_l, pSub_i, pMod_i, pFdiv_i, pNeg_i, pTupOf_l, pListOf_l, pListOf_t, pMin_i, pMax_i, pIs_n, pIs_b, pIsNot_n, pIsNot_b, pInt1_i, pAbs_i, qAppend_l, qExtend_l, qExtend_t, pSum_i, pAny_b, pAll_b, pRev, pRevL, pSl, pIx_t, pIx_l, pLen_map, pLen_mapT, pLen_net, pLen_t, pLen_l, pLen_s, pIn_ss, pNotIn_ss, pIn_s3, pIx_s, pIx_fu0, pIx_fu1, pIx_fu2, pIx_p0, pIx_p1, gT_fu, pEq_fu, pNe_fu, pEq_str, pNe_str, pLt_str, pGt_str, pIn_fl, pIn_ft, pNotIn_fl, pNotIn_ft, pIn_sl, pIn_st, pNotIn_sl, pNotIn_st, pIn_s2, pIx_dS, pIn_dS, pNotIn_dS, pSetK_dS, pLen_dS, pIx_dF, pIn_dF, pNotIn_dF, pSetT_dF, pLen_dF, List.length_map, slD_fu, slD_t, slD_l, slD_s, truD_i, truD_b, truD_n, truD_l, truD_t, revDt_l, revDt_t, fuD_eq, itemsS_t, itemsS_l, seqD_l, seqD_t, seqD_s]; exact fun _ => hR
  · simp only [sCells, sAsg, sSeq, sIf, sSet, sRet, sRetN, sNext, sBoxPut, sPar, setAll, sExprM, mMeth, tyD, tBool, tTru, tAndM, tOrM, tNotM, m1, m2, mN, mV, mC, mCall, mBoxI, aNil, aCons, mIf, mTup, mLst, mLk, hasD, mAndV, mOrV, pNotB, aSeq, itemsS, aRng1, aRng2, aRng3, gN, gsNil, gsCons, gSt, pSetL, pLenB, isD, pSl, pSlL, oNone, oSome, pEq_int, pNe_int, pLt_int, pGt_int, pLe_int, pGe_int, mChain, aEnum, aZip, mCount, List.set_cons_zero, List.set_cons_succ, List.getElem?_cons_zero, List.getElem?_cons_succ, List.length_cons, List.length_nil, if_true, if_false, Bool.false_eq_true, true_and, and_true, decide_eq_true_eq, wipeD, tTrue, List.map_cons, List.map_nil, natD, at20, at21, at30, at31, at32, Option.some.injEq, exists_eq_left', gT_t, pAddE_i, pAddE_s, pAddE_l, pAddE_t, pAdd_i, pAddL_l, pSub_i, pMod_i, pFdiv_i, pNeg_i, pTupOf_l, pListOf_l, pListOf_t, pMin_i, pMax_i, pIs_n, pIs_b, pIsNot_n, pIsNot_b, pInt1_i, pAbs_i, qAppend_l, qExtend_l, qExtend_t, pSum_i, pAny_b, pAll_b, pRev, pRevL, pSl, pIx_t, pIx_l, pLen_map, pLen_mapT, pLen_net, pLen_t, pLen_l, pLen_s, pIn_ss, pNotIn_ss, pIn_s3, pIx_s, pIx_fu0, pIx_fu1, pIx_fu2, pIx_p0, pIx_p1, gT_fu, pEq_fu, pNe_fu, pEq_str, pNe_str, pLt_str, pGt_str, pIn_fl, pIn_ft, pNotIn_fl, pNotIn_ft, pIn_sl, pIn_st, pNotIn_sl, pNotIn_st, pIn_s2, pIx_dS, pIn_dS, pNotIn_dS, pSetK_dS, pLen_dS, pIx_dF, pIn_dF, pNotIn_dF, pSetT_dF, pLen_dF, List.length_map, slD_fu, slD_t, slD_l, slD_s, truD_i, truD_b, truD_n, truD_l, truD_t, revDt_l, revDt_t, fuD_eq, itemsS_t, itemsS_l, seqD_l, seqD_t, seqD_s]
    rw [B.tm (hN.filter _) hL]
    by_cases c : f ∈ cut
    · rw [if_pos c]; exact hp (by simp [c])
    · rw [if_neg c]
      cases e : (tm (woF net cut) L f.a).isSome with
      | true => rw [e] at hn; exact hn (by simp [c])
      | false => rw [e] at hp; exact hp (by simp)
  · have e : ((net.filter fun f => decide (f ∈ cut) || !(tm (woF net cut) L f.a).isSome).map fun f => PyData.int f.c) = ((net.filter fun f => decide (f ∈ cut) || !(tm (woF net cut) L f.a).isSome).map (·.c)).map .int := by rw [List.map_map]; rfl
    rw [e, pSum_i]; exact h
theorem ok_is_net {f : Addr} {fd : FuncData} (F : Fun K "is_net" "is_net" s_is_net f fd) (m_all : mg "all" = none) (m_isinstance : mg "isinstance" = none) (m_len : mg "len" = none) (m_tuple : mg "tuple" = none) {u_MOST_FUSES : Value} (c_MOST_FUSES : mg "MOST_FUSES" = some u_MOST_FUSES) (r_MOST_FUSES : RelV (.int (24)) u_MOST_FUSES) {f_is_ascending : Addr} {fd_is_ascending : FuncData} (F_is_ascending : Fun K "is_ascending" "is_ascending" s_is_ascending f_is_ascending fd_is_ascending) (g_is_ascending : mg "is_ascending" = some (.ref f_is_ascending)) (b_is_ascending : Binds K fd_is_ascending ["rows"] []) (G_is_ascending : FnOk P w K mg base CX0 1 f_is_ascending fd_is_ascending ["rows"] (spD K 1 q_is_ascending)) {f_is_fuse : Addr} {fd_is_fuse : FuncData} (F_is_fuse : Fun K "is_fuse" "is_fuse" s_is_fuse f_is_fuse fd_is_fuse) (g_is_fuse : mg "is_fuse" = some (.ref f_is_fuse)) (b_is_fuse : Binds K fd_is_fuse ["value"] []) (G_is_fuse : FnOk P w K mg base CX0 2 f_is_fuse fd_is_fuse ["value"] (spD K 1 q_is_fuse)) : FnOk P w K mg base CX0 3 f fd ["value"] (spD K 1 q_is_net) := by
  have nd := sc_is_net.nd
  refine fnD (φ := q_is_net) F sc_is_net i_is_net rfl rfl (by decide) (fun cdv A outer s H E hr => (dss_cons (ds_if (dt_w (dw_or (dt_not (dt_tru (db (de_isa (N := "tuple") (by decide) (w_b 0) (by rfl) m_isinstance (by rfl) m_tuple boot_tuple)))) (dw_or (dt_not (dt_chain (r_le (hu200 hr)) (r_le (hu200 hr)) (db de_int) (db (de_bi r_len (by rfl) m_len boot_len (dab_cons (w_b 0) dab_nil))) (db (de_gI (by rfl) c_MOST_FUSES r_MOST_FUSES)))) (dw_or1 (dt_not (dt_tru (db (de_bi (r_all rfl) (by rfl) m_all boot_all (dab_cons (db (de (df_lc [("fuse", 1)] [] ⟨by decide, by decide, by decide, by decide⟩ (by decide) rfl nd (di_seq (dq (w_v 0))) (blkOk_by (by kernel_rfl)) (fun _ _ _ _ _ => (w_gn 1 nd)) (fun _ _ _ _ _ => dts_nil) (fun _ _ _ _ _ => (w_call G_is_fuse (hr.mono (by omega)) g_is_fuse F_is_fuse.kp b_is_fuse (dae_cons (w_v 1) dae_nil)))))) dab_nil)))))))))
 (dss_one (ds_ret de_bl))
 dss_nil)
 (dss_one (ds_ret (w_call G_is_ascending (hr.mono (by omega)) g_is_ascending F_is_ascending.kp b_is_ascending (dae_cons (w_v 0) dae_nil)))))) ?_
  rintro ds Q hl ⟨d, rfl, hv, h⟩
  rw [show startD ["value", "fuse"] ([d].map some) = [some (d), none] from rfl]
  have fin : ∀ b : Bool, b = false → (Q (.bool b) → Q (.bool false)) := fun b e q => by rw [e] at q; exact q
  cases d with
  | tuple xs =>
    simp only [sCells, sAsg, sSeq, sIf, sSet, sRet, sRetN, sNext, sBoxPut, sPar, setAll, sExprM, mMeth, tyD, tBool, tTru, tAndM, tOrM, tNotM, m1, m2, mN, mV, mC, mCall, mBoxI, aNil, aCons, mIf, mTup, mLst, mLk, hasD, mAndV, mOrV, pNotB, aSeq, itemsS, aRng1, aRng2, aRng3, gN, gsNil, gsCons, gSt, pSetL, pLenB, isD, pSl, pSlL, oNone, oSome, pEq_int, pNe_int, pLt_int, pGt_int, pLe_int, pGe_int, mChain, aEnum, aZip, mCount, List.set_cons_zero, List.set_cons_succ, List.getElem?_cons_zero, List.getElem?_cons_succ, List.length_cons, List.length_nil, if_true, if_false, Bool.false_eq_true, true_and, and_true, decide_eq_true_eq, wipeD, tTrue, List.map_cons, List.map_nil, natD, at20, at21, at30, at31, at32, Option.some.injEq, exists_eq_left', gT_t, pAddE_i, pAddE_s, pAddE_l, pAddE_t, pAdd_i, pAddL_l, pSub_i, pMod_i, pFdiv_i, pNeg_i, pTupOf_l, pListOf_l, pListOf_t, pMin_i, pMax_i, pIs_n, pIs_b, pIsNot_n, pIsNot_b, pInt1_i, pAbs_i, qAppend_l, qExtend_l, qExtend_t, pSum_i, pAny_b, pAll_b, pRev, pRevL, pSl, pIx_t, pIx_l, pLen_map, pLen_mapT, pLen_net, pLen_t, pLen_l, pLen_s, pIn_ss, pNotIn_ss, pIn_s3, pIx_s, pIx_fu0, pIx_fu1, pIx_fu2, pIx_p0, pIx_p1, gT_fu, pEq_fu, pNe_fu, pEq_str, pNe_str, pLt_str, pGt_str, pIn_fl, pIn_ft, pNotIn_fl, pNotIn_ft, pIn_sl, pIn_st, pNotIn_sl, pNotIn_st, pIn_s2, pIx_dS, pIn_dS, pNotIn_dS, pSetK_dS, pLen_dS, pIx_dF, pIn_dF, pNotIn_dF, pSetT_dF, pLen_dF, List.length_map, slD_fu, slD_t, slD_l, slD_s, truD_i, truD_b, truD_n, truD_l, truD_t, revDt_l, revDt_t, fuD_eq, itemsS_t, itemsS_l, seqD_l, seqD_t, seqD_s, pIsa, tyN, isa_NoneType_tuple, isa_NoneType_list, isa_NoneType_bool, isa_NoneType_int, isa_NoneType_str, isa_NoneType_dict, isa_bool_tuple, isa_bool_list, isa_bool_bool, isa_bool_int, isa_bool_str, isa_bool_dict, isa_int_tuple, isa_int_list, isa_int_bool, isa_int_int, isa_int_str, isa_int_dict, isa_str_tuple, isa_str_list, isa_str_bool, isa_str_int, isa_str_str, isa_str_dict, isa_list_tuple, isa_list_list, isa_list_bool, isa_list_int, isa_list_str, isa_list_dict, isa_tuple_tuple, isa_tuple_list, isa_tuple_bool, isa_tuple_int, isa_tuple_str, isa_tuple_dict, isa_dict_tuple, isa_dict_list, isa_dict_bool, isa_dict_int, isa_dict_str, isa_dict_dict]
    have h : Q (.bool (decide (1 ≤ (xs.length : Int)) && decide ((xs.length : Int) ≤ 24) && xs.all isFuseD && ascD xs)) := h
    rw [if_neg (by decide)]
    by_cases c1 : (1 : Int) ≤ xs.length
    · rw [if_pos c1]
      by_cases c2 : (xs.length : Int) ≤ 24
      · rw [if_neg (by simp [c2])]
        refine mLc_map xs (fun d => d) (fun d => .bool (isFuseD d)) (fun R hR => ?_) (by rw [sizeLine_eq]; omega) (fun d hd P N hp => ?_) ?_
        · simp only [sCells, sAsg, sSeq, sIf, sSet, sRet, sRetN, sNext, sBoxPut, sPar, setAll, sExprM, mMeth, tyD, tBool, tTru, tAndM, tOrM, tNotM, m1, m2, mN, mV, mC, mCall, mBoxI, aNil, aCons, mIf, mTup, mLst, mLk, hasD, mAndV, mOrV, pNotB, aSeq, itemsS, aRng1, aRng2, aRng3, gN, gsNil, gsCons, gSt, pSetL, pLenB, isD, pSl, pSlL, oNone, oSome, pEq_int, pNe_int, pLt_int, pGt_int, pLe_int, pGe_int, mChain, aEnum, aZip, mCount, List.set_cons_zero, List.set_cons_succ, List.getElem?_cons_zero, List.getElem?_cons_succ, List.length_cons, List.length_nil, if_true, if_false, Bool.false_eq_true, true_and, and_true, decide_eq_true_eq, wipeD, tTrue, List.map_cons, List.map_nil, natD, at20, at21, at30, at31, at32, Option.some.injEq, exists_eq_left', gT_t, pAddE_i, pAddE_s, pAddE_l, pAddE_t, pAdd_i, pAddL_l, pSub_i, pMod_i, pFdiv_i, pNeg_i, pTupOf_l, pListOf_l, pListOf_t, pMin_i, pMax_i, pIs_n, pIs_b, pIsNot_n, pIsNot_b, pInt1_i, pAbs_i, qAppend_l, qExtend_l, qExtend_t, pSum_i, pAny_b, pAll_b, pRev, pRevL, pSl, pIx_t, pIx_l, pLen_map, pLen_mapT, pLen_net, pLen_t, pLen_l, pLen_s, pIn_ss, pNotIn_ss, pIn_s3, pIx_s, pIx_fu0, pIx_fu1, pIx_fu2, pIx_p0, pIx_p1, gT_fu, pEq_fu, pNe_fu, pEq_str, pNe_str, pLt_str, pGt_str, pIn_fl, pIn_ft, pNotIn_fl, pNotIn_ft, pIn_sl, pIn_st, pNotIn_sl, pNotIn_st, pIn_s2, pIx_dS, pIn_dS, pNotIn_dS, pSetK_dS, pLen_dS, pIx_dF, pIn_dF, pNotIn_dF, pSetT_dF, pLen_dF, List.length_map, slD_fu, slD_t, slD_l, slD_s, truD_i, truD_b, truD_n, truD_l, truD_t, revDt_l, revDt_t, fuD_eq, itemsS_t, itemsS_l, seqD_l, seqD_t, seqD_s]; rw [List.map_id'] at hR; exact fun _ => hR
        · simp only [sCells, sAsg, sSeq, sIf, sSet, sRet, sRetN, sNext, sBoxPut, sPar, setAll, sExprM, mMeth, tyD, tBool, tTru, tAndM, tOrM, tNotM, m1, m2, mN, mV, mC, mCall, mBoxI, aNil, aCons, mIf, mTup, mLst, mLk, hasD, mAndV, mOrV, pNotB, aSeq, itemsS, aRng1, aRng2, aRng3, gN, gsNil, gsCons, gSt, pSetL, pLenB, isD, pSl, pSlL, oNone, oSome, pEq_int, pNe_int, pLt_int, pGt_int, pLe_int, pGe_int, mChain, aEnum, aZip, mCount, List.set_cons_zero, List.set_cons_succ, List.getElem?_cons_zero, List.getElem?_cons_succ, List.length_cons, List.length_nil, if_true, if_false, Bool.false_eq_true, true_and, and_true, decide_eq_true_eq, wipeD, tTrue, List.map_cons, List.map_nil, natD, at20, at21, at30, at31, at32, Option.some.injEq, exists_eq_left', gT_t, pAddE_i, pAddE_s, pAddE_l, pAddE_t, pAdd_i, pAddL_l, pSub_i, pMod_i, pFdiv_i, pNeg_i, pTupOf_l, pListOf_l, pListOf_t, pMin_i, pMax_i, pIs_n, pIs_b, pIsNot_n, pIsNot_b, pInt1_i, pAbs_i, qAppend_l, qExtend_l, qExtend_t, pSum_i, pAny_b, pAll_b, pRev, pRevL, pSl, pIx_t, pIx_l, pLen_map, pLen_mapT, pLen_net, pLen_t, pLen_l, pLen_s, pIn_ss, pNotIn_ss, pIn_s3, pIx_s, pIx_fu0, pIx_fu1, pIx_fu2, pIx_p0, pIx_p1, gT_fu, pEq_fu, pNe_fu, pEq_str, pNe_str, pLt_str, pGt_str, pIn_fl, pIn_ft, pNotIn_fl, pNotIn_ft, pIn_sl, pIn_st, pNotIn_sl, pNotIn_st, pIn_s2, pIx_dS, pIn_dS, pNotIn_dS, pSetK_dS, pLen_dS, pIx_dF, pIn_dF, pNotIn_dF, pSetT_dF, pLen_dF, List.length_map, slD_fu, slD_t, slD_l, slD_s, truD_i, truD_b, truD_n, truD_l, truD_t, revDt_l, revDt_t, fuD_eq, itemsS_t, itemsS_l, seqD_l, seqD_t, seqD_s, q_is_fuse]
          exact ⟨d, rfl, hv.mem hd, hp⟩
        · rw [pAll_f]
          by_cases c3 : xs.all isFuseD = true
          · simp only [sCells, sAsg, sSeq, sIf, sSet, sRet, sRetN, sNext, sBoxPut, sPar, setAll, sExprM, mMeth, tyD, tBool, tTru, tAndM, tOrM, tNotM, m1, m2, mN, mV, mC, mCall, mBoxI, aNil, aCons, mIf, mTup, mLst, mLk, hasD, mAndV, mOrV, pNotB, aSeq, itemsS, aRng1, aRng2, aRng3, gN, gsNil, gsCons, gSt, pSetL, pLenB, isD, pSl, pSlL, oNone, oSome, pEq_int, pNe_int, pLt_int, pGt_int, pLe_int, pGe_int, mChain, aEnum, aZip, mCount, List.set_cons_zero, List.set_cons_succ, List.getElem?_cons_zero, List.getElem?_cons_succ, List.length_cons, List.length_nil, if_true, if_false, Bool.false_eq_true, true_and, and_true, decide_eq_true_eq, wipeD, tTrue, List.map_cons, List.map_nil, natD, at20, at21, at30, at31, at32, Option.some.injEq, exists_eq_left', gT_t, pAddE_i, pAddE_s, pAddE_l, pAddE_t, pAdd_i, pAddL_l, pSub_i, pMod_i, pFdiv_i, pNeg_i, pTupOf_l, pListOf_l, pListOf_t, pMin_i, pMax_i, pIs_n, pIs_b, pIsNot_n, pIsNot_b, pInt1_i, pAbs_i, qAppend_l, qExtend_l, qExtend_t, pSum_i, pAny_b, pAll_b, pRev, pRevL, pSl, pIx_t, pIx_l, pLen_map, pLen_mapT, pLen_net, pLen_t, pLen_l, pLen_s, pIn_ss, pNotIn_ss, pIn_s3, pIx_s, pIx_fu0, pIx_fu1, pIx_fu2, pIx_p0, pIx_p1, gT_fu, pEq_fu, pNe_fu, pEq_str, pNe_str, pLt_str, pGt_str, pIn_fl, pIn_ft, pNotIn_fl, pNotIn_ft, pIn_sl, pIn_st, pNotIn_sl, pNotIn_st, pIn_s2, pIx_dS, pIn_dS, pNotIn_dS, pSetK_dS, pLen_dS, pIx_dF, pIn_dF, pNotIn_dF, pSetT_dF, pLen_dF, List.length_map, slD_fu, slD_t, slD_l, slD_s, truD_i, truD_b, truD_n, truD_l, truD_t, revDt_l, revDt_t, fuD_eq, itemsS_t, itemsS_l, seqD_l, seqD_t, seqD_s]
            rw [if_neg (by rw [c3]; decide)]
            refine ⟨xs, .inr rfl, by omega, ?_, by simpa [c1, c2, c3] using h⟩
            intro k hk
            have hx : ∀ i, i < xs.length → ∃ f : Fu, xs.getD i .none = fuD f := by
              intro i hi
              have hm : xs.getD i .none ∈ xs := by rw [List.getD_eq_getElem?_getD, List.getElem?_eq_getElem hi]; exact List.getElem_mem hi
              have hf := List.all_eq_true.mp c3 _ hm
              exact fuse_of hf
            obtain ⟨f, ef⟩ := hx k (by omega)
            obtain ⟨g, eg⟩ := hx (k + 1) (by omega)
            rw [ef, eg]
            exact ltOk_d (α := Fu) (by decide) f g
          · simp only [sCells, sAsg, sSeq, sIf, sSet, sRet, sRetN, sNext, sBoxPut, sPar, setAll, sExprM, mMeth, tyD, tBool, tTru, tAndM, tOrM, tNotM, m1, m2, mN, mV, mC, mCall, mBoxI, aNil, aCons, mIf, mTup, mLst, mLk, hasD, mAndV, mOrV, pNotB, aSeq, itemsS, aRng1, aRng2, aRng3, gN, gsNil, gsCons, gSt, pSetL, pLenB, isD, pSl, pSlL, oNone, oSome, pEq_int, pNe_int, pLt_int, pGt_int, pLe_int, pGe_int, mChain, aEnum, aZip, mCount, List.set_cons_zero, List.set_cons_succ, List.getElem?_cons_zero, List.getElem?_cons_succ, List.length_cons, List.length_nil, if_true, if_false, Bool.false_eq_true, true_and, and_true, decide_eq_true_eq, wipeD, tTrue, List.map_cons, List.map_nil, natD, at20, at21, at30, at31, at32, Option.some.injEq, exists_eq_left', gT_t, pAddE_i, pAddE_s, pAddE_l, pAddE_t, pAdd_i, pAddL_l, pSub_i, pMod_i, pFdiv_i, pNeg_i, pTupOf_l, pListOf_l, pListOf_t, pMin_i, pMax_i, pIs_n, pIs_b, pIsNot_n, pIsNot_b, pInt1_i, pAbs_i, qAppend_l, qExtend_l, qExtend_t, pSum_i, pAny_b, pAll_b, pRev, pRevL, pSl, pIx_t, pIx_l, pLen_map, pLen_mapT, pLen_net, pLen_t, pLen_l, pLen_s, pIn_ss, pNotIn_ss, pIn_s3, pIx_s, pIx_fu0, pIx_fu1, pIx_fu2, pIx_p0, pIx_p1, gT_fu, pEq_fu, pNe_fu, pEq_str, pNe_str, pLt_str, pGt_str, pIn_fl, pIn_ft, pNotIn_fl, pNotIn_ft, pIn_sl, pIn_st, pNotIn_sl, pNotIn_st, pIn_s2, pIx_dS, pIn_dS, pNotIn_dS, pSetK_dS, pLen_dS, pIx_dF, pIn_dF, pNotIn_dF, pSetT_dF, pLen_dF, List.length_map, slD_fu, slD_t, slD_l, slD_s, truD_i, truD_b, truD_n, truD_l, truD_t, revDt_l, revDt_t, fuD_eq, itemsS_t, itemsS_l, seqD_l, seqD_t, seqD_s]
            rw [if_pos (by simpa using c3)]
            exact fin _ (by simp [c3]) h
      · rw [if_pos (by simp [c2])]; exact fin _ (by simp [c2]) h
    · rw [if_neg c1, if_pos (by decide)]; exact fin _ (by simp [c1]) h
  | dict => exact absurd hv.pl (by simp [PyData.plain])
  | _ => simp only [sCells, sAsg, sSeq, sIf, sSet, sRet, sRetN, sNext, sBoxPut, sPar, setAll, sExprM, mMeth, tyD, tBool, tTru, tAndM, tOrM, tNotM, m1, m2, mN, mV, mC, mCall, mBoxI, aNil, aCons, mIf, mTup, mLst, mLk, hasD, mAndV, mOrV, pNotB, aSeq, itemsS, aRng1, aRng2, aRng3, gN, gsNil, gsCons, gSt, pSetL, pLenB, isD, pSl, pSlL, oNone, oSome, pEq_int, pNe_int, pLt_int, pGt_int, pLe_int, pGe_int, mChain, aEnum, aZip, mCount, List.set_cons_zero, List.set_cons_succ, List.getElem?_cons_zero, List.getElem?_cons_succ, List.length_cons, List.length_nil, if_true, if_false, Bool.false_eq_true, true_and, and_true, decide_eq_true_eq, wipeD, tTrue, List.map_cons, List.map_nil, natD, at20, at21, at30, at31, at32, Option.some.injEq, exists_eq_left', gT_t, pAddE_i, pAddE_s, pAddE_l, pAddE_t, pAdd_i, pAddL_l, pSub_i, pMod_i, pFdiv_i, pNeg_i, pTupOf_l, pListOf_l, pListOf_t, pMin_i, pMax_i, pIs_n, pIs_b, pIsNot_n, pIsNot_b, pInt1_i, pAbs_i, qAppend_l, qExtend_l, qExtend_t, pSum_i, pAny_b, pAll_b, pRev, pRevL, pSl, pIx_t, pIx_l, pLen_map, pLen_mapT, pLen_net, pLen_t, pLen_l, pLen_s, pIn_ss, pNotIn_ss, pIn_s3, pIx_s, pIx_fu0, pIx_fu1, pIx_fu2, pIx_p0, pIx_p1, gT_fu, pEq_fu, pNe_fu, pEq_str, pNe_str, pLt_str, pGt_str, pIn_fl, pIn_ft, pNotIn_fl, pNotIn_ft, pIn_sl, pIn_st, pNotIn_sl, pNotIn_st, pIn_s2, pIx_dS, pIn_dS, pNotIn_dS, pSetK_dS, pLen_dS, pIx_dF, pIn_dF, pNotIn_dF, pSetT_dF, pLen_dF, List.length_map, slD_fu, slD_t, slD_l, slD_s, truD_i, truD_b, truD_n, truD_l, truD_t, revDt_l, revDt_t, fuD_eq, itemsS_t, itemsS_l, seqD_l, seqD_t, seqD_s, pIsa, tyN, isa_NoneType_tuple, isa_NoneType_list, isa_NoneType_bool, isa_NoneType_int, isa_NoneType_str, isa_NoneType_dict, isa_bool_tuple, isa_bool_list, isa_bool_bool, isa_bool_int, isa_bool_str, isa_bool_dict, isa_int_tuple, isa_int_list, isa_int_bool, isa_int_int, isa_int_str, isa_int_dict, isa_str_tuple, isa_str_list, isa_str_bool, isa_str_int, isa_str_str, isa_str_dict, isa_list_tuple, isa_list_list, isa_list_bool, isa_list_int, isa_list_str, isa_list_dict, isa_tuple_tuple, isa_tuple_list, isa_tuple_bool, isa_tuple_int, isa_tuple_str, isa_tuple_dict, isa_dict_tuple, isa_dict_list, isa_dict_bool, isa_dict_int, isa_dict_str, isa_dict_dict]; rw [if_pos (by decide)]; exact h
theorem ok_unburnt {f : Addr} {fd : FuncData} (F : Fun K "unburnt" "unburnt" s_unburnt f fd) (m_tuple : mg "tuple" = none) {f_burn_times : Addr} {fd_burn_times : FuncData} (F_burn_times : Fun K "burn_times" "burn_times" s_burn_times f_burn_times fd_burn_times) (g_burn_times : mg "burn_times" = some (.ref f_burn_times)) (b_burn_times : Binds K fd_burn_times ["net", "lights"] []) (G_burn_times : FnOk P w K mg base CX0 2 f_burn_times fd_burn_times ["net", "lights"] (spD K 2 q_burn_times)) : FnOk P w K mg base CX0 3 f fd ["net", "lights"] (spD K 2 q_unburnt) := by
  have nd := sc_unburnt.nd
  refine fnD (φ := q_unburnt) F sc_unburnt i_unburnt rfl rfl (by decide) (fun cdv A outer s H E hr => (dss_cons (w_set 2 nd (w_call G_burn_times (hr.mono (by omega)) g_burn_times F_burn_times.kp b_burn_times (dae_cons (w_v 0) (dae_cons (w_v 1) dae_nil))))
 (dss_one (ds_ret (de_bty r_tupOf (by rfl) m_tuple boot_tuple (dab_cons (db (de (df_lc [("fuse", 3)] [] ⟨by decide, by decide, by decide, by decide⟩ (by decide) rfl nd (di_seq (dq (w_v 0))) (blkOk_by (by kernel_rfl)) (fun _ _ _ _ _ => (w_gn 3 nd)) (fun _ _ _ _ _ => (dts_one (dt_cmpM (r_notIn (hu200 hr)) (de_ix (hu200 hr) (w_b 3) de_int) (w_b 2)))) (fun _ _ _ _ _ => (w_v 3))))) dab_nil)))))) ?_
  rintro ds Q hl ⟨net, L, rfl, hN, hL, h⟩
  rw [show startD ["net", "lights", "times", "fuse"] ([netD net, lisD L].map some) = [some (netD net), some (lisD L), none, none] from rfl]
  simp only [sCells, sAsg, sSeq, sIf, sSet, sRet, sRetN, sNext, sBoxPut, sPar, setAll, sExprM, mMeth, tyD, tBool, tTru, tAndM, tOrM, tNotM, m1, m2, mN, mV, mC, mCall, mBoxI, aNil, aCons, mIf, mTup, mLst, mLk, hasD, mAndV, mOrV, pNotB, aSeq, itemsS, aRng1, aRng2, aRng3, gN, gsNil, gsCons, gSt, pSetL, pLenB, isD, pSl, pSlL, oNone, oSome, pEq_int, pNe_int, pLt_int, pGt_int, pLe_int, pGe_int, mChain, aEnum, aZip, mCount, List.set_cons_zero, List.set_cons_succ, List.getElem?_cons_zero, List.getElem?_cons_succ, List.length_cons, List.length_nil, if_true, if_false, Bool.false_eq_true, true_and, and_true, decide_eq_true_eq, wipeD, tTrue, List.map_cons, List.map_nil, natD, at20, at21, at30, at31, at32, Option.some.injEq, exists_eq_left', gT_t, pAddE_i, pAddE_s, pAddE_l, pAddE_t, pAdd_i, pAddL_l, pSub_i, pMod_i, pFdiv_i, pNeg_i, pTupOf_l, pListOf_l, pListOf_t, pMin_i, pMax_i, pIs_n, pIs_b, pIsNot_n, pIsNot_b, pInt1_i, pAbs_i, qAppend_l, qExtend_l, qExtend_t, pSum_i, pAny_b, pAll_b, pRev, pRevL, pSl, pIx_t, pIx_l, pLen_map, pLen_mapT, pLen_net, pLen_t, pLen_l, pLen_s, pIn_ss, pNotIn_ss, pIn_s3, pIx_s, pIx_fu0, pIx_fu1, pIx_fu2, pIx_p0, pIx_p1, gT_fu, pEq_fu, pNe_fu, pEq_str, pNe_str, pLt_str, pGt_str, pIn_fl, pIn_ft, pNotIn_fl, pNotIn_ft, pIn_sl, pIn_st, pNotIn_sl, pNotIn_st, pIn_s2, pIx_dS, pIn_dS, pNotIn_dS, pSetK_dS, pLen_dS, pIx_dF, pIn_dF, pNotIn_dF, pSetT_dF, pLen_dF, List.length_map, slD_fu, slD_t, slD_l, slD_s, truD_i, truD_b, truD_n, truD_l, truD_t, revDt_l, revDt_t, fuD_eq, itemsS_t, itemsS_l, seqD_l, seqD_t, seqD_s, q_burn_times]
  refine ⟨net, L, rfl, hN, hL, fun es B hz => ?_⟩
  refine mLc_filter net fuD fuD (fun f => !(tm net L f.a).isSome) (fun R hR => ?_) (by have := hN.len; rw [sizeLine_eq]; omega) (fun f hf P N hp hn => ?_) h
  · simp only [sCells, sAsg, sSeq, sIf, sSet, sRet, sRetN, sNext, sBoxPut, sPar, setAll, sExprM, mMeth, tyD, tBool, tTru, tAndM, tOrM, tNotM, m1, m2, mN, mV, mC, mCall, mBoxI, aNil, aCons, mIf, mTup, mLst, mLk, hasD, mAndV, mOrV, pNotB, aSeq, itemsS, aRng1, aRng2, aRng3, gN, gsNil, gsCons, gSt, pSetL, pLenB, isD, pSl, pSlL, oNone, oSome, pEq_int, pNe_int, pLt_int, pGt_int, pLe_int, pGe_int, mChain, aEnum, aZip, mCount, List.set_cons_zero, List.set_cons_succ, List.getElem?_cons_zero, List.getElem?_cons_succ, List.length_cons, List.length_nil, if_true, if_false, Bool.false_eq_true, true_and, and_true, decide_eq_true_eq, wipeD, tTrue, List.map_cons, List.map_nil, natD, at20, at21, at30, at31, at32, Option.some.injEq, exists_eq_left', gT_t, pAddE_i, pAddE_s, pAddE_l, pAddE_t, pAdd_i, pAddL_l, pSub_i, pMod_i, pFdiv_i, pNeg_i, pTupOf_l, pListOf_l, pListOf_t, pMin_i, pMax_i, pIs_n, pIs_b, pIsNot_n, pIsNot_b, pInt1_i, pAbs_i, qAppend_l, qExtend_l, qExtend_t, pSum_i, pAny_b, pAll_b, pRev, pRevL, pSl, pIx_t, pIx_l, pLen_map, pLen_mapT, pLen_net, pLen_t, pLen_l, pLen_s, pIn_ss, pNotIn_ss, pIn_s3, pIx_s, pIx_fu0, pIx_fu1, pIx_fu2, pIx_p0, pIx_p1, gT_fu, pEq_fu, pNe_fu, pEq_str, pNe_str, pLt_str, pGt_str, pIn_fl, pIn_ft, pNotIn_fl, pNotIn_ft, pIn_sl, pIn_st, pNotIn_sl, pNotIn_st, pIn_s2, pIx_dS, pIn_dS, pNotIn_dS, pSetK_dS, pLen_dS, pIx_dF, pIn_dF, pNotIn_dF, pSetT_dF, pLen_dF, List.length_map, slD_fu, slD_t, slD_l, slD_s, truD_i, truD_b, truD_n, truD_l, truD_t, revDt_l, revDt_t, fuD_eq, itemsS_t, itemsS_l, seqD_l, seqD_t, seqD_s]; exact fun _ => hR
  · simp only [sCells, sAsg, sSeq, sIf, sSet, sRet, sRetN, sNext, sBoxPut, sPar, setAll, sExprM, mMeth, tyD, tBool, tTru, tAndM, tOrM, tNotM, m1, m2, mN, mV, mC, mCall, mBoxI, aNil, aCons, mIf, mTup, mLst, mLk, hasD, mAndV, mOrV, pNotB, aSeq, itemsS, aRng1, aRng2, aRng3, gN, gsNil, gsCons, gSt, pSetL, pLenB, isD, pSl, pSlL, oNone, oSome, pEq_int, pNe_int, pLt_int, pGt_int, pLe_int, pGe_int, mChain, aEnum, aZip, mCount, List.set_cons_zero, List.set_cons_succ, List.getElem?_cons_zero, List.getElem?_cons_succ, List.length_cons, List.length_nil, if_true, if_false, Bool.false_eq_true, true_and, and_true, decide_eq_true_eq, wipeD, tTrue, List.map_cons, List.map_nil, natD, at20, at21, at30, at31, at32, Option.some.injEq, exists_eq_left', gT_t, pAddE_i, pAddE_s, pAddE_l, pAddE_t, pAdd_i, pAddL_l, pSub_i, pMod_i, pFdiv_i, pNeg_i, pTupOf_l, pListOf_l, pListOf_t, pMin_i, pMax_i, pIs_n, pIs_b, pIsNot_n, pIsNot_b, pInt1_i, pAbs_i, qAppend_l, qExtend_l, qExtend_t, pSum_i, pAny_b, pAll_b, pRev, pRevL, pSl, pIx_t, pIx_l, pLen_map, pLen_mapT, pLen_net, pLen_t, pLen_l, pLen_s, pIn_ss, pNotIn_ss, pIn_s3, pIx_s, pIx_fu0, pIx_fu1, pIx_fu2, pIx_p0, pIx_p1, gT_fu, pEq_fu, pNe_fu, pEq_str, pNe_str, pLt_str, pGt_str, pIn_fl, pIn_ft, pNotIn_fl, pNotIn_ft, pIn_sl, pIn_st, pNotIn_sl, pNotIn_st, pIn_s2, pIx_dS, pIn_dS, pNotIn_dS, pSetK_dS, pLen_dS, pIx_dF, pIn_dF, pNotIn_dF, pSetT_dF, pLen_dF, List.length_map, slD_fu, slD_t, slD_l, slD_s, truD_i, truD_b, truD_n, truD_l, truD_t, revDt_l, revDt_t, fuD_eq, itemsS_t, itemsS_l, seqD_l, seqD_t, seqD_s]
    rw [B.tm hN hL]
    cases e : (tm net L f.a).isSome with
    | true => rw [e] at hn; exact hn rfl
    | false => rw [e] at hp; exact hp rfl
theorem ok_begin_of {f : Addr} {fd : FuncData} (F : Fun K "begin_of" "begin_of" s_begin_of f fd) (m_min : mg "min" = none) {f_burn_times : Addr} {fd_burn_times : FuncData} (F_burn_times : Fun K "burn_times" "burn_times" s_burn_times f_burn_times fd_burn_times) (g_burn_times : mg "burn_times" = some (.ref f_burn_times)) (b_burn_times : Binds K fd_burn_times ["net", "lights"] []) (G_burn_times : FnOk P w K mg base CX0 2 f_burn_times fd_burn_times ["net", "lights"] (spD K 2 q_burn_times)) : FnOk P w K mg base CX0 3 f fd ["net", "lights", "fuse"] (spD K 3 q_begin_of) := by
  have nd := sc_begin_of.nd
  refine fnD (φ := q_begin_of) F sc_begin_of i_begin_of rfl rfl (by decide) (fun cdv A outer s H E hr => (dss_cons (w_set 3 nd (w_call G_burn_times (hr.mono (by omega)) g_burn_times F_burn_times.kp b_burn_times (dae_cons (w_v 0) (dae_cons (w_v 1) dae_nil))))
 (dss_one (ds_ret (de_if (dt_cmpM (r_in (hu200 hr)) (de_ix (hu200 hr) (w_b 2) de_int) (w_b 3)) (de_bi (r_min rfl (hu200 hr)) (by rfl) m_min boot_min (dab_cons (db (de_ix (hu200 hr) (w_b 3) (de_ix (hu200 hr) (w_b 2) de_int))) (dab_cons (db (de_ix (hu200 hr) (w_b 3) (de_ix (hu200 hr) (w_b 2) de_int))) dab_nil))) de_non))))) ?_
  rintro ds Q hl ⟨net, L, f, rfl, hN, hL, hf, h⟩
  rw [show startD ["net", "lights", "fuse", "times"] ([netD net, lisD L, fuD f].map some) = [some (netD net), some (lisD L), some (fuD f), none] from rfl]
  simp only [sCells, sAsg, sSeq, sIf, sSet, sRet, sRetN, sNext, sBoxPut, sPar, setAll, sExprM, mMeth, tyD, tBool, tTru, tAndM, tOrM, tNotM, m1, m2, mN, mV, mC, mCall, mBoxI, aNil, aCons, mIf, mTup, mLst, mLk, hasD, mAndV, mOrV, pNotB, aSeq, itemsS, aRng1, aRng2, aRng3, gN, gsNil, gsCons, gSt, pSetL, pLenB, isD, pSl, pSlL, oNone, oSome, pEq_int, pNe_int, pLt_int, pGt_int, pLe_int, pGe_int, mChain, aEnum, aZip, mCount, List.set_cons_zero, List.set_cons_succ, List.getElem?_cons_zero, List.getElem?_cons_succ, List.length_cons, List.length_nil, if_true, if_false, Bool.false_eq_true, true_and, and_true, decide_eq_true_eq, wipeD, tTrue, List.map_cons, List.map_nil, natD, at20, at21, at30, at31, at32, Option.some.injEq, exists_eq_left', gT_t, pAddE_i, pAddE_s, pAddE_l, pAddE_t, pAdd_i, pAddL_l, pSub_i, pMod_i, pFdiv_i, pNeg_i, pTupOf_l, pListOf_l, pListOf_t, pMin_i, pMax_i, pIs_n, pIs_b, pIsNot_n, pIsNot_b, pInt1_i, pAbs_i, qAppend_l, qExtend_l, qExtend_t, pSum_i, pAny_b, pAll_b, pRev, pRevL, pSl, pIx_t, pIx_l, pLen_map, pLen_mapT, pLen_net, pLen_t, pLen_l, pLen_s, pIn_ss, pNotIn_ss, pIn_s3, pIx_s, pIx_fu0, pIx_fu1, pIx_fu2, pIx_p0, pIx_p1, gT_fu, pEq_fu, pNe_fu, pEq_str, pNe_str, pLt_str, pGt_str, pIn_fl, pIn_ft, pNotIn_fl, pNotIn_ft, pIn_sl, pIn_st, pNotIn_sl, pNotIn_st, pIn_s2, pIx_dS, pIn_dS, pNotIn_dS, pSetK_dS, pLen_dS, pIx_dF, pIn_dF, pNotIn_dF, pSetT_dF, pLen_dF, List.length_map, slD_fu, slD_t, slD_l, slD_s, truD_i, truD_b, truD_n, truD_l, truD_t, revDt_l, revDt_t, fuD_eq, itemsS_t, itemsS_l, seqD_l, seqD_t, seqD_s, q_burn_times]
  refine ⟨net, L, rfl, hN, hL, fun es B hz => ?_⟩
  rw [B.tm hN hL, B.tm hN hL]
  have hab := tm_ab hN hL hf
  unfold bgn at h
  cases ea : tm net L f.a with
  | none => rw [ea] at h; exact h
  | some t =>
    rw [ea] at hab h
    cases eb : tm net L f.b with
    | none => rw [eb] at hab; cases hab
    | some u =>
      rw [eb] at h
      simp only [Option.isSome_some, if_true]
      exact ⟨t, rfl, u, rfl, h⟩
theorem ok__law_net {f : Addr} {fd : FuncData} (F : Fun K "_law_net" "_law_net" s__law_net f fd) (m_max : mg "max" = none) (m_min : mg "min" = none) (m_range : mg "range" = none) (m_sorted : mg "sorted" = none) (m_tuple : mg "tuple" = none) {f__law_draw : Addr} {fd__law_draw : FuncData} (F__law_draw : Fun K "_law_draw" "_law_draw" s__law_draw f__law_draw fd__law_draw) (g__law_draw : mg "_law_draw" = some (.ref f__law_draw)) (b__law_draw : Binds K fd__law_draw ["box", "many"] []) (G__law_draw : FnOk P w K mg base CX0 2 f__law_draw fd__law_draw ["box", "many"] (spB K boxK 1 fDraw)) : FnOk P w K mg base CX0 3 f fd ["box", "knots", "fuses", "most"] (spB K boxK 3 q__law_net) := by
  have nd := sc__law_net.nd
  refine fnB (φ := q__law_net) boxK_st F sc__law_net i__law_net rfl rfl (by decide) (fun cdv A outer s H E hr => (dss_cons (w_par2 4 5 nd (dax_e (de_sl de_str do_none (do_some (w_v 1))) (dax_f df_dnewT dax_nil)))
 (dss_cons (ds_for [] (by decide) rfl (di_range1 (by rfl) m_range (dae_cons (de_binE r_addE de_int (w_callB 0 G__law_draw (hr.mono (by omega)) g__law_draw F__law_draw.kp b__law_draw (dae_cons (w_v 2) dae_nil))) dae_nil)) (dgw (w_gn 6 nd))
 (dss_cons (w_set 7 nd (w_callB 0 G__law_draw (hr.mono (by omega)) g__law_draw F__law_draw.kp b__law_draw (dae_cons (w_v 1) dae_nil)))
 (dss_cons (w_set 8 nd (de_binE r_addE (de_binE r_addE (w_v 7) de_int) (w_callB 0 G__law_draw (hr.mono (by omega)) g__law_draw F__law_draw.kp b__law_draw (dae_cons (de_bin r_sub (w_b 1) (db de_int)) dae_nil))))
 (dss_cons (w_set 8 nd (de_if (dt_cmp (r_ge (hu200 hr)) (w_b 8) (w_b 1)) (de_bin r_sub (w_b 8) (w_b 1)) (w_v 8)))
 (dss_one (ds_asgw de_bl (w_gsub 5 (set_dict (hu1 hr)) st_dictT (de_tup (dae_cons (de_ix (hu200 hr) (w_b 4) (de_bi (r_min rfl (hu200 hr)) (by rfl) m_min boot_min (dab_cons (w_b 7) (dab_cons (w_b 8) dab_nil)))) (dae_cons (de_ix (hu200 hr) (w_b 4) (de_bi (r_max rfl (hu200 hr)) (by rfl) m_max boot_max (dab_cons (w_b 7) (dab_cons (w_b 8) dab_nil)))) (dae_cons (de_binE r_addE de_int (w_callB 0 G__law_draw (hr.mono (by omega)) g__law_draw F__law_draw.kp b__law_draw (dae_cons (w_v 3) dae_nil))) dae_nil)))))))))) PassesOwn.never)
 (dss_one (ds_ret (de_bty r_tupOf (by rfl) m_tuple boot_tuple (dab_cons (db (de (df_bi (r_sorted rfl (hu200 hr)) (by rfl) m_sorted boot_sorted (dab_cons (w_b 5) dab_nil)))) dab_nil))))))) ?_
  rintro ds Q hl ⟨n, fu, ln, rfl, hn1, hn2, hf1, hf2, hl1, hl2, h⟩
  rw [show startD ["box", "knots", "fuses", "most", "names", "found", "step", "k", "j"] (none :: [.int n, .int fu, .int ln].map some) = [none, some (.int n), some (.int fu), some (.int ln), none, none, none, none, none] from rfl]
  simp only [sCells, sAsg, sSeq, sIf, sSet, sRet, sRetN, sNext, sBoxPut, sPar, setAll, sExprM, mMeth, tyD, tBool, tTru, tAndM, tOrM, tNotM, m1, m2, mN, mV, mC, mCall, mBoxI, aNil, aCons, mIf, mTup, mLst, mLk, hasD, mAndV, mOrV, pNotB, aSeq, itemsS, aRng1, aRng2, aRng3, gN, gsNil, gsCons, gSt, pSetL, pLenB, isD, pSl, pSlL, oNone, oSome, pEq_int, pNe_int, pLt_int, pGt_int, pLe_int, pGe_int, mChain, aEnum, aZip, mCount, List.set_cons_zero, List.set_cons_succ, List.getElem?_cons_zero, List.getElem?_cons_succ, List.length_cons, List.length_nil, if_true, if_false, Bool.false_eq_true, true_and, and_true, decide_eq_true_eq, wipeD, tTrue, List.map_cons, List.map_nil, natD, at20, at21, at30, at31, at32, Option.some.injEq, exists_eq_left', gT_t, pAddE_i, pAddE_s, pAddE_l, pAddE_t, pAdd_i, pAddL_l, pSub_i, pMod_i, pFdiv_i, pNeg_i, pTupOf_l, pListOf_l, pListOf_t, pMin_i, pMax_i, pIs_n, pIs_b, pIsNot_n, pIsNot_b, pInt1_i, pAbs_i, qAppend_l, qExtend_l, qExtend_t, pSum_i, pAny_b, pAll_b, pRev, pRevL, pSl, pIx_t, pIx_l, pLen_map, pLen_mapT, pLen_net, pLen_t, pLen_l, pLen_s, pIn_ss, pNotIn_ss, pIn_s3, pIx_s, pIx_fu0, pIx_fu1, pIx_fu2, pIx_p0, pIx_p1, gT_fu, pEq_fu, pNe_fu, pEq_str, pNe_str, pLt_str, pGt_str, pIn_fl, pIn_ft, pNotIn_fl, pNotIn_ft, pIn_sl, pIn_st, pNotIn_sl, pNotIn_st, pIn_s2, pIx_dS, pIn_dS, pNotIn_dS, pSetK_dS, pLen_dS, pIx_dF, pIn_dF, pNotIn_dF, pSetT_dF, pLen_dF, List.length_map, slD_fu, slD_t, slD_l, slD_s, truD_i, truD_b, truD_n, truD_l, truD_t, revDt_l, revDt_t, fuD_eq, itemsS_t, itemsS_l, seqD_l, seqD_t, seqD_s, fDraw]
  refine ⟨by decide, ?_⟩
  simp only [sFor, aRng1, aCons, aNil, m2, mC, mCall, mV, fDraw, at20, List.getElem?_cons_succ, List.getElem?_cons_zero, List.length_cons, List.length_nil]
  refine ⟨trivial, fu, rfl, by omega, by omega, fun d0 hd0 hd1 => ?_⟩
  let good : Fu → Prop := fun f => ∃ i j : Nat, i < j ∧ j < n ∧ f.a = ltr i ∧ f.b = ltr j ∧ 1 ≤ f.c ∧ f.c ≤ ln
  refine ⟨rngOk_of (by omega) (by omega), ?_⟩
  refine sForD_rng 0 (1 + d0) (fun i ρ => ∃ es o1 o2 o3, ρ = [none, some (.int n), some (.int fu), some (.int ln), some (.str (cutS (Str.ofString "abcdefgh") none (some (n : Int)))), some (dF .bool es), o1, o2, o3] ∧ (es.map (·.1)).Nodup ∧ (∀ k ∈ es.map (·.1), good k) ∧ es.length ≤ i ∧ (0 < i → 0 < es.length)) ⟨[], _, _, _, rfl, List.nodup_nil, (fun _ h => nomatch h), Nat.le_refl _, fun h => nomatch h⟩ ?_ ?_
  · rintro i _ hi ⟨es, o1, o2, o3, rfl, nd, hg, hlen, hpos⟩
    simp only [sCells, sAsg, sSeq, sIf, sSet, sRet, sRetN, sNext, sBoxPut, sPar, setAll, sExprM, mMeth, tyD, tBool, tTru, tAndM, tOrM, tNotM, m1, m2, mN, mV, mC, mCall, mBoxI, aNil, aCons, mIf, mTup, mLst, mLk, hasD, mAndV, mOrV, pNotB, aSeq, itemsS, aRng1, aRng2, aRng3, gN, gsNil, gsCons, gSt, pSetL, pLenB, isD, pSl, pSlL, oNone, oSome, pEq_int, pNe_int, pLt_int, pGt_int, pLe_int, pGe_int, mChain, aEnum, aZip, mCount, List.set_cons_zero, List.set_cons_succ, List.getElem?_cons_zero, List.getElem?_cons_succ, List.length_cons, List.length_nil, if_true, if_false, Bool.false_eq_true, true_and, and_true, decide_eq_true_eq, wipeD, tTrue, List.map_cons, List.map_nil, natD, at20, at21, at30, at31, at32, Option.some.injEq, exists_eq_left', gT_t, pAddE_i, pAddE_s, pAddE_l, pAddE_t, pAdd_i, pAddL_l, pSub_i, pMod_i, pFdiv_i, pNeg_i, pTupOf_l, pListOf_l, pListOf_t, pMin_i, pMax_i, pIs_n, pIs_b, pIsNot_n, pIsNot_b, pInt1_i, pAbs_i, qAppend_l, qExtend_l, qExtend_t, pSum_i, pAny_b, pAll_b, pRev, pRevL, pSl, pIx_t, pIx_l, pLen_map, pLen_mapT, pLen_net, pLen_t, pLen_l, pLen_s, pIn_ss, pNotIn_ss, pIn_s3, pIx_s, pIx_fu0, pIx_fu1, pIx_fu2, pIx_p0, pIx_p1, gT_fu, pEq_fu, pNe_fu, pEq_str, pNe_str, pLt_str, pGt_str, pIn_fl, pIn_ft, pNotIn_fl, pNotIn_ft, pIn_sl, pIn_st, pNotIn_sl, pNotIn_st, pIn_s2, pIx_dS, pIn_dS, pNotIn_dS, pSetK_dS, pLen_dS, pIx_dF, pIn_dF, pNotIn_dF, pSetT_dF, pLen_dF, List.length_map, slD_fu, slD_t, slD_l, slD_s, truD_i, truD_b, truD_n, truD_l, truD_t, revDt_l, revDt_t, fuD_eq, itemsS_t, itemsS_l, seqD_l, seqD_t, seqD_s, fDraw]
    refine ⟨n, rfl, by omega, by omega, fun k hk0 hk1 => ?_⟩
    refine ⟨(n : Int) - 1, rfl, by omega, by omega, fun d hd2 hd3 => ?_⟩
    have fin : ∀ j : Int, 0 ≤ j → j < n → j ≠ k → ∀ Q' : En → Prop, (∀ es', (es'.map (·.1)).Nodup → (∀ k ∈ es'.map (·.1), good k) → es'.length ≤ i + 1 → 0 < es'.length → ∀ o1 o2 o3, Q' [none, some (.int n), some (.int fu), some (.int ln), some (.str (cutS (Str.ofString "abcdefgh") none (some (n : Int)))), some (dF .bool es'), o1, o2, o3]) →
        ∃ v, (cutS (Str.ofString "abcdefgh") none (some (n : Int))).length ≤ sizeLine ∧ atD (cutS (Str.ofString "abcdefgh") none (some (n : Int))).cps.toList (if j < k then j else k) = some v ∧ ∃ v2, (cutS (Str.ofString "abcdefgh") none (some (n : Int))).length ≤ sizeLine ∧ atD (cutS (Str.ofString "abcdefgh") none (some (n : Int))).cps.toList (if k < j then j else k) = some v2 ∧
          ∃ many : Int, [PyData.int ln] = [.int many] ∧ 0 < many ∧ many < 1073741824 ∧ ∀ d : Int, 0 ≤ d → d < many → 0 + 1 + 1 + 1 ≤ sizeLine ∧ pSetT (dF .bool es) (.tuple [.str ⟨#[v]⟩, .str ⟨#[v2]⟩, .int (1 + d)]) (.bool true) fun d' => Q' [none, some (.int n), some (.int fu), some (.int ln), some (.str (cutS (Str.ofString "abcdefgh") none (some (n : Int)))), some d', some (.int (0 + (i : Int))), some (.int k), some (.int j)] := by
      intro j hj0 hj1 hjk Q' hQ
      obtain ⟨k', rfl⟩ := Int.eq_ofNat_of_zero_le hk0
      obtain ⟨j', rfl⟩ := Int.eq_ofNat_of_zero_le hj0
      have key : ∀ a b : Nat, a < b → b < n → ∃ v, (cutS (Str.ofString "abcdefgh") none (some (n : Int))).length ≤ sizeLine ∧ atD (cutS (Str.ofString "abcdefgh") none (some (n : Int))).cps.toList (a : Int) = some v ∧ ∃ v2, (cutS (Str.ofString "abcdefgh") none (some (n : Int))).length ≤ sizeLine ∧ atD (cutS (Str.ofString "abcdefgh") none (some (n : Int))).cps.toList (b : Int) = some v2 ∧
          ∃ many : Int, [PyData.int ln] = [.int many] ∧ 0 < many ∧ many < 1073741824 ∧ ∀ d : Int, 0 ≤ d → d < many → 0 + 1 + 1 + 1 ≤ sizeLine ∧ pSetT (dF .bool es) (.tuple [.str ⟨#[v]⟩, .str ⟨#[v2]⟩, .int (1 + d)]) (.bool true) fun d' => Q' [none, some (.int n), some (.int fu), some (.int ln), some (.str (cutS (Str.ofString "abcdefgh") none (some (n : Int)))), some d', some (.int (0 + (i : Int))), some (.int k'), some (.int j')] := by
        intro a b hab hb
        refine ⟨_, abc_len hn2, abc_at hn2 (by omega), _, abc_len hn2, abc_at hn2 hb, ln, rfl, by omega, by omega, fun d h1 h2 => ⟨by decide, ?_⟩⟩
        rw [fuD_mk, pSetT_dF]
        refine ⟨by rw [sizeLine_eq]; omega, hQ _ (aput_nodup nd _ _) (fun f hf => ?_) ?_ ?_ _ _ _⟩
        · rw [aput_keys] at hf
          have : f ∈ es.map (·.1) ∨ f = ⟨⟨#[97 + a]⟩, ⟨#[97 + b]⟩, 1 + d⟩ := by
            split at hf
            · exact .inl hf
            · rcases List.mem_append.mp hf with h | h
              · exact .inl h
              · exact .inr (List.mem_singleton.mp h)
          rcases this with h | rfl
          · exact hg f h
          · exact ⟨a, b, hab, hb, rfl, rfl, by show 1 ≤ 1 + d; omega, by show 1 + d ≤ ln; omega⟩
        · rw [aput_len]; split <;> omega
        · rw [aput_len]; split
          · rename_i h; have := List.length_pos_of_mem (aget_key.mp h); simpa using this
          · omega
      by_cases c : (j' : Int) < k'
      · rw [if_pos c, if_neg (by omega)]; exact key j' k' (by omega) (by omega)
      · rw [if_neg c, if_pos (by omega)]; exact key k' j' (by omega) (by omega)
    have out : ∀ es', (es'.map (·.1)).Nodup → (∀ k ∈ es'.map (·.1), good k) → es'.length ≤ i + 1 → 0 < es'.length → ∀ o1 o2 o3 : Option D, (fun ρ => ∃ es o1 o2 o3, ρ = [none, some (PyData.int n), some (.int fu), some (.int ln), some (.str (cutS (Str.ofString "abcdefgh") none (some (n : Int)))), some (dF .bool es), o1, o2, o3] ∧ (es.map (·.1)).Nodup ∧ (∀ k ∈ es.map (·.1), good k) ∧ es.length ≤ i + 1 ∧ (0 < i + 1 → 0 < es.length)) [none, some (PyData.int n), some (.int fu), some (.int ln), some (.str (cutS (Str.ofString "abcdefgh") none (some (n : Int)))), some (dF .bool es'), o1, o2, o3] :=
      fun es' h1 h2 h3 h4 o1 o2 o3 => ⟨es', o1, o2, o3, rfl, h1, h2, h3, fun _ => h4⟩
    by_cases c : (n : Int) ≤ k + 1 + d
    · rw [if_pos c]
      exact fin (k + 1 + d - n) (by omega) (by omega) (by omega) (fun ρ => ∃ es o1 o2 o3, ρ = [none, some (PyData.int n), some (.int fu), some (.int ln), some (.str (cutS (Str.ofString "abcdefgh") none (some (n : Int)))), some (dF .bool es), o1, o2, o3] ∧ (es.map (·.1)).Nodup ∧ (∀ k ∈ es.map (·.1), good k) ∧ es.length ≤ i + 1 ∧ (0 < i + 1 → 0 < es.length)) out
    · rw [if_neg c]
      exact fin (k + 1 + d) (by omega) (by omega) (by omega) (fun ρ => ∃ es o1 o2 o3, ρ = [none, some (PyData.int n), some (.int fu), some (.int ln), some (.str (cutS (Str.ofString "abcdefgh") none (some (n : Int)))), some (dF .bool es), o1, o2, o3] ∧ (es.map (·.1)).Nodup ∧ (∀ k ∈ es.map (·.1), good k) ∧ es.length ≤ i + 1 ∧ (0 < i + 1 → 0 < es.length)) out
  · rintro _ ⟨es, o1, o2, o3, rfl, nd, hg, hlen, hpos⟩
    simp only [sCells, sAsg, sSeq, sIf, sSet, sRet, sRetN, sNext, sBoxPut, sPar, setAll, sExprM, mMeth, tyD, tBool, tTru, tAndM, tOrM, tNotM, m1, m2, mN, mV, mC, mCall, mBoxI, aNil, aCons, mIf, mTup, mLst, mLk, hasD, mAndV, mOrV, pNotB, aSeq, itemsS, aRng1, aRng2, aRng3, gN, gsNil, gsCons, gSt, pSetL, pLenB, isD, pSl, pSlL, oNone, oSome, pEq_int, pNe_int, pLt_int, pGt_int, pLe_int, pGe_int, mChain, aEnum, aZip, mCount, List.set_cons_zero, List.set_cons_succ, List.getElem?_cons_zero, List.getElem?_cons_succ, List.length_cons, List.length_nil, if_true, if_false, Bool.false_eq_true, true_and, and_true, decide_eq_true_eq, wipeD, tTrue, List.map_cons, List.map_nil, natD, at20, at21, at30, at31, at32, Option.some.injEq, exists_eq_left', gT_t, pAddE_i, pAddE_s, pAddE_l, pAddE_t, pAdd_i, pAddL_l, pSub_i, pMod_i, pFdiv_i, pNeg_i, pTupOf_l, pListOf_l, pListOf_t, pMin_i, pMax_i, pIs_n, pIs_b, pIsNot_n, pIsNot_b, pInt1_i, pAbs_i, qAppend_l, qExtend_l, qExtend_t, pSum_i, pAny_b, pAll_b, pRev, pRevL, pSl, pIx_t, pIx_l, pLen_map, pLen_mapT, pLen_net, pLen_t, pLen_l, pLen_s, pIn_ss, pNotIn_ss, pIn_s3, pIx_s, pIx_fu0, pIx_fu1, pIx_fu2, pIx_p0, pIx_p1, gT_fu, pEq_fu, pNe_fu, pEq_str, pNe_str, pLt_str, pGt_str, pIn_fl, pIn_ft, pNotIn_fl, pNotIn_ft, pIn_sl, pIn_st, pNotIn_sl, pNotIn_st, pIn_s2, pIx_dS, pIn_dS, pNotIn_dS, pSetK_dS, pLen_dS, pIx_dF, pIn_dF, pNotIn_dF, pSetT_dF, pLen_dF, List.length_map, slD_fu, slD_t, slD_l, slD_s, truD_i, truD_b, truD_n, truD_l, truD_t, revDt_l, revDt_t, fuD_eq, itemsS_t, itemsS_l, seqD_l, seqD_t, seqD_s]
    refine pSorted_dF .bool es ?_
    simp only [sCells, sAsg, sSeq, sIf, sSet, sRet, sRetN, sNext, sBoxPut, sPar, setAll, sExprM, mMeth, tyD, tBool, tTru, tAndM, tOrM, tNotM, m1, m2, mN, mV, mC, mCall, mBoxI, aNil, aCons, mIf, mTup, mLst, mLk, hasD, mAndV, mOrV, pNotB, aSeq, itemsS, aRng1, aRng2, aRng3, gN, gsNil, gsCons, gSt, pSetL, pLenB, isD, pSl, pSlL, oNone, oSome, pEq_int, pNe_int, pLt_int, pGt_int, pLe_int, pGe_int, mChain, aEnum, aZip, mCount, List.set_cons_zero, List.set_cons_succ, List.getElem?_cons_zero, List.getElem?_cons_succ, List.length_cons, List.length_nil, if_true, if_false, Bool.false_eq_true, true_and, and_true, decide_eq_true_eq, wipeD, tTrue, List.map_cons, List.map_nil, natD, at20, at21, at30, at31, at32, Option.some.injEq, exists_eq_left', gT_t, pAddE_i, pAddE_s, pAddE_l, pAddE_t, pAdd_i, pAddL_l, pSub_i, pMod_i, pFdiv_i, pNeg_i, pTupOf_l, pListOf_l, pListOf_t, pMin_i, pMax_i, pIs_n, pIs_b, pIsNot_n, pIsNot_b, pInt1_i, pAbs_i, qAppend_l, qExtend_l, qExtend_t, pSum_i, pAny_b, pAll_b, pRev, pRevL, pSl, pIx_t, pIx_l, pLen_map, pLen_mapT, pLen_net, pLen_t, pLen_l, pLen_s, pIn_ss, pNotIn_ss, pIn_s3, pIx_s, pIx_fu0, pIx_fu1, pIx_fu2, pIx_p0, pIx_p1, gT_fu, pEq_fu, pNe_fu, pEq_str, pNe_str, pLt_str, pGt_str, pIn_fl, pIn_ft, pNotIn_fl, pNotIn_ft, pIn_sl, pIn_st, pNotIn_sl, pNotIn_st, pIn_s2, pIx_dS, pIn_dS, pNotIn_dS, pSetK_dS, pLen_dS, pIx_dF, pIn_dF, pNotIn_dF, pSetT_dF, pLen_dF, List.length_map, slD_fu, slD_t, slD_l, slD_s, truD_i, truD_b, truD_n, truD_l, truD_t, revDt_l, revDt_t, fuD_eq, itemsS_t, itemsS_l, seqD_l, seqD_t, seqD_s]
    have hp := srt_perm (es.map (·.1))
    have hl2 : (srt (es.map (·.1))).length = es.length := by rw [hp.length_eq, List.length_map]
    exact h _ ⟨srt_strict nd, by rw [hl2]; exact hpos (by omega), by rw [hl2]; omega, fun f hf => hg f (srt_mem.mp hf)⟩
theorem ok__law_lights {f : Addr} {fd : FuncData} (F : Fun K "_law_lights" "_law_lights" s__law_lights f fd) (m_len : mg "len" = none) (m_range : mg "range" = none) (m_sorted : mg "sorted" = none) (m_tuple : mg "tuple" = none) {f__law_draw : Addr} {fd__law_draw : FuncData} (F__law_draw : Fun K "_law_draw" "_law_draw" s__law_draw f__law_draw fd__law_draw) (g__law_draw : mg "_law_draw" = some (.ref f__law_draw)) (b__law_draw : Binds K fd__law_draw ["box", "many"] []) (G__law_draw : FnOk P w K mg base CX0 2 f__law_draw fd__law_draw ["box", "many"] (spB K boxK 1 fDraw)) {f__law_knots : Addr} {fd__law_knots : FuncData} (F__law_knots : Fun K "_law_knots" "_law_knots" s__law_knots f__law_knots fd__law_knots) (g__law_knots : mg "_law_knots" = some (.ref f__law_knots)) (b__law_knots : Binds K fd__law_knots ["net"] []) (G__law_knots : FnOk P w K mg base CX0 1 f__law_knots fd__law_knots ["net"] (spD K 1 q__law_knots)) : FnOk P w K mg base CX0 3 f fd ["box", "net", "most", "late"] (spB K boxK 3 q__law_lights) := by
  have nd := sc__law_lights.nd
  refine fnB (φ := q__law_lights) boxK_st F sc__law_lights i__law_lights rfl rfl (by decide) (fun cdv A outer s H E hr => (dss_cons (ds_parT [4, 5] (slotsOk (by decide)) (by decide) rfl (dax_e (w_call G__law_knots (hr.mono (by omega)) g__law_knots F__law_knots.kp b__law_knots (dae_cons (w_v 1) dae_nil)) (dax_f df_dnewK dax_nil)) (pgs_cons (pg_name (i := 4) nd rfl (by first | exact .inl rfl | exact .inr rfl)) (pgs_cons (pg_name (i := 5) nd rfl (by first | exact .inl rfl | exact .inr rfl)) pgs_nil)))
 (dss_cons (ds_for [] (by decide) rfl (di_range1 (by rfl) m_range (dae_cons (de_binE r_addE de_int (w_callB 0 G__law_draw (hr.mono (by omega)) g__law_draw F__law_draw.kp b__law_draw (dae_cons (w_v 2) dae_nil))) dae_nil)) (dgw (w_gn 6 nd))
 (dss_one (ds_asgw (w_callB 0 G__law_draw (hr.mono (by omega)) g__law_draw F__law_draw.kp b__law_draw (dae_cons (w_v 3) dae_nil)) (w_gsub 5 (set_dict (hu1 hr)) st_dictK (de_ix (hu200 hr) (w_b 4) (w_callB 0 G__law_draw (hr.mono (by omega)) g__law_draw F__law_draw.kp b__law_draw (dae_cons (de_bi r_len (by rfl) m_len boot_len (dab_cons (w_b 4) dab_nil)) dae_nil)))))) PassesOwn.never)
 (dss_one (ds_ret (de_bty r_tupOf (by rfl) m_tuple boot_tuple (dab_cons (db (de (df_lc [("knot", 7)] [] ⟨by decide, by decide, by decide, by decide⟩ (by decide) rfl nd (di_seq (dq (de (df_bi (r_sorted rfl (hu200 hr)) (by rfl) m_sorted boot_sorted (dab_cons (w_b 5) dab_nil))))) (blkOk_by (by kernel_rfl)) (fun _ _ _ _ _ => (w_gn 7 nd)) (fun _ _ _ _ _ => dts_nil) (fun _ _ _ _ _ => (de_tup (dae_cons (w_v 7) (dae_cons (de_ix (hu200 hr) (w_b 5) (w_v 7)) dae_nil))))))) dab_nil))))))) ?_
  rintro ds Q hl ⟨net, most, late, rfl, hne, hn, hm1, hm2, hl1, hl2, h⟩
  rw [show startD ["box", "net", "most", "late", "knots", "found", "step", "knot"] (none :: [netD net, .int most, .int late].map some) = [none, some (netD net), some (.int most), some (.int late), none, none, none, none] from rfl]
  simp only [sCells, sAsg, sSeq, sIf, sSet, sRet, sRetN, sNext, sBoxPut, sPar, setAll, sExprM, mMeth, tyD, tBool, tTru, tAndM, tOrM, tNotM, m1, m2, mN, mV, mC, mCall, mBoxI, aNil, aCons, mIf, mTup, mLst, mLk, hasD, mAndV, mOrV, pNotB, aSeq, itemsS, aRng1, aRng2, aRng3, gN, gsNil, gsCons, gSt, pSetL, pLenB, isD, pSl, pSlL, oNone, oSome, pEq_int, pNe_int, pLt_int, pGt_int, pLe_int, pGe_int, mChain, aEnum, aZip, mCount, List.set_cons_zero, List.set_cons_succ, List.getElem?_cons_zero, List.getElem?_cons_succ, List.length_cons, List.length_nil, if_true, if_false, Bool.false_eq_true, true_and, and_true, decide_eq_true_eq, wipeD, tTrue, List.map_cons, List.map_nil, natD, at20, at21, at30, at31, at32, Option.some.injEq, exists_eq_left', gT_t, pAddE_i, pAddE_s, pAddE_l, pAddE_t, pAdd_i, pAddL_l, pSub_i, pMod_i, pFdiv_i, pNeg_i, pTupOf_l, pListOf_l, pListOf_t, pMin_i, pMax_i, pIs_n, pIs_b, pIsNot_n, pIsNot_b, pInt1_i, pAbs_i, qAppend_l, qExtend_l, qExtend_t, pSum_i, pAny_b, pAll_b, pRev, pRevL, pSl, pIx_t, pIx_l, pLen_map, pLen_mapT, pLen_net, pLen_t, pLen_l, pLen_s, pIn_ss, pNotIn_ss, pIn_s3, pIx_s, pIx_fu0, pIx_fu1, pIx_fu2, pIx_p0, pIx_p1, gT_fu, pEq_fu, pNe_fu, pEq_str, pNe_str, pLt_str, pGt_str, pIn_fl, pIn_ft, pNotIn_fl, pNotIn_ft, pIn_sl, pIn_st, pNotIn_sl, pNotIn_st, pIn_s2, pIx_dS, pIn_dS, pNotIn_dS, pSetK_dS, pLen_dS, pIx_dF, pIn_dF, pNotIn_dF, pSetT_dF, pLen_dF, List.length_map, slD_fu, slD_t, slD_l, slD_s, truD_i, truD_b, truD_n, truD_l, truD_t, revDt_l, revDt_t, fuD_eq, itemsS_t, itemsS_l, seqD_l, seqD_t, seqD_s, q__law_knots, fDraw]
  refine ⟨net, rfl, hn, fun ks ka km kl => ?_⟩
  have hkn : ks ≠ [] := by
    obtain ⟨f, hf⟩ := List.exists_mem_of_ne_nil net hne
    have := (km f.a).mpr ⟨f, hf, .inl rfl⟩
    intro z; rw [z] at this; cases this
  have hkp : 0 < ks.length := List.length_pos_iff.mpr hkn
  simp only [sFor, aRng1, aCons, aNil, m2, mC, mCall, mV, fDraw, List.getElem?_cons_succ, List.getElem?_cons_zero, List.length_cons, List.length_nil]
  refine ⟨trivial, most, rfl, by omega, by omega, fun d0 hd0 hd1 => ?_⟩
  refine ⟨rngOk_of (by omega) (by omega), ?_⟩
  refine sForD_rng 0 (1 + d0) (fun i ρ => ∃ es o1 o2, ρ = [none, some (netD net), some (.int most), some (.int late), some (.list (ks.map .str)), some (dS .int es), o1, o2] ∧ (es.map (·.1)).Nodup ∧ (∀ p ∈ es, p.1 ∈ ks ∧ 0 ≤ p.2 ∧ p.2 < late) ∧ es.length ≤ i ∧ (0 < i → 0 < es.length)) ⟨[], _, _, rfl, List.nodup_nil, (fun _ h => nomatch h), Nat.le_refl _, fun h => nomatch h⟩ ?_ ?_
  · rintro i _ hi ⟨es, o1, o2, rfl, nd, hg, hlen, hpos⟩
    simp only [sCells, sAsg, sSeq, sIf, sSet, sRet, sRetN, sNext, sBoxPut, sPar, setAll, sExprM, mMeth, tyD, tBool, tTru, tAndM, tOrM, tNotM, m1, m2, mN, mV, mC, mCall, mBoxI, aNil, aCons, mIf, mTup, mLst, mLk, hasD, mAndV, mOrV, pNotB, aSeq, itemsS, aRng1, aRng2, aRng3, gN, gsNil, gsCons, gSt, pSetL, pLenB, isD, pSl, pSlL, oNone, oSome, pEq_int, pNe_int, pLt_int, pGt_int, pLe_int, pGe_int, mChain, aEnum, aZip, mCount, List.set_cons_zero, List.set_cons_succ, List.getElem?_cons_zero, List.getElem?_cons_succ, List.length_cons, List.length_nil, if_true, if_false, Bool.false_eq_true, true_and, and_true, decide_eq_true_eq, wipeD, tTrue, List.map_cons, List.map_nil, natD, at20, at21, at30, at31, at32, Option.some.injEq, exists_eq_left', gT_t, pAddE_i, pAddE_s, pAddE_l, pAddE_t, pAdd_i, pAddL_l, pSub_i, pMod_i, pFdiv_i, pNeg_i, pTupOf_l, pListOf_l, pListOf_t, pMin_i, pMax_i, pIs_n, pIs_b, pIsNot_n, pIsNot_b, pInt1_i, pAbs_i, qAppend_l, qExtend_l, qExtend_t, pSum_i, pAny_b, pAll_b, pRev, pRevL, pSl, pIx_t, pIx_l, pLen_map, pLen_mapT, pLen_net, pLen_t, pLen_l, pLen_s, pIn_ss, pNotIn_ss, pIn_s3, pIx_s, pIx_fu0, pIx_fu1, pIx_fu2, pIx_p0, pIx_p1, gT_fu, pEq_fu, pNe_fu, pEq_str, pNe_str, pLt_str, pGt_str, pIn_fl, pIn_ft, pNotIn_fl, pNotIn_ft, pIn_sl, pIn_st, pNotIn_sl, pNotIn_st, pIn_s2, pIx_dS, pIn_dS, pNotIn_dS, pSetK_dS, pLen_dS, pIx_dF, pIn_dF, pNotIn_dF, pSetT_dF, pLen_dF, List.length_map, slD_fu, slD_t, slD_l, slD_s, truD_i, truD_b, truD_n, truD_l, truD_t, revDt_l, revDt_t, fuD_eq, itemsS_t, itemsS_l, seqD_l, seqD_t, seqD_s, fDraw]
    refine ⟨late, rfl, by omega, by omega, fun d hd2 hd3 => ?_⟩
    refine ⟨ks.length, rfl, by omega, by omega, fun k hk0 hk1 => ?_⟩
    obtain ⟨k', rfl⟩ := Int.eq_ofNat_of_zero_le hk0
    have hk : k' < ks.length := by omega
    refine ⟨.str ks[k'], ?_, ?_⟩
    · rw [atD_nat (by omega), Int.toNat_natCast, List.getElem?_map, List.getElem?_eq_getElem hk]; rfl
    · rw [pSetK_dS]
      refine ⟨by rw [sizeLine_eq]; omega, _, _, _, rfl, aput_nodup nd _ _, fun p hp => ?_, ?_, fun _ => ?_⟩
      · obtain ⟨x, v⟩ := p
        have ha := aget_of_mem (aput_nodup nd _ _) hp
        rw [aget_aput] at ha
        by_cases e : x = ks[k']
        · rw [if_pos e] at ha; cases ha
          exact ⟨by rw [e]; exact List.getElem_mem hk, hd2, hd3⟩
        · rw [if_neg e] at ha
          exact hg _ (aget_mem ha)
      · rw [aput_len]; split <;> omega
      · rw [aput_len]; split
        · rename_i h; have := List.length_pos_of_mem (aget_key.mp h); simpa using this
        · omega
  · rintro _ ⟨es, o1, o2, rfl, nd, hg, hlen, hpos⟩
    simp only [mLc, sCells, sAsg, sSeq, sIf, sSet, sRet, sRetN, sNext, sBoxPut, sPar, setAll, sExprM, mMeth, tyD, tBool, tTru, tAndM, tOrM, tNotM, m1, m2, mN, mV, mC, mCall, mBoxI, aNil, aCons, mIf, mTup, mLst, mLk, hasD, mAndV, mOrV, pNotB, aSeq, itemsS, aRng1, aRng2, aRng3, gN, gsNil, gsCons, gSt, pSetL, pLenB, isD, pSl, pSlL, oNone, oSome, pEq_int, pNe_int, pLt_int, pGt_int, pLe_int, pGe_int, mChain, aEnum, aZip, mCount, List.set_cons_zero, List.set_cons_succ, List.getElem?_cons_zero, List.getElem?_cons_succ, List.length_cons, List.length_nil, if_true, if_false, Bool.false_eq_true, true_and, and_true, decide_eq_true_eq, wipeD, tTrue, List.map_cons, List.map_nil, natD, at20, at21, at30, at31, at32, Option.some.injEq, exists_eq_left', gT_t, pAddE_i, pAddE_s, pAddE_l, pAddE_t, pAdd_i, pAddL_l, pSub_i, pMod_i, pFdiv_i, pNeg_i, pTupOf_l, pListOf_l, pListOf_t, pMin_i, pMax_i, pIs_n, pIs_b, pIsNot_n, pIsNot_b, pInt1_i, pAbs_i, qAppend_l, qExtend_l, qExtend_t, pSum_i, pAny_b, pAll_b, pRev, pRevL, pSl, pIx_t, pIx_l, pLen_map, pLen_mapT, pLen_net, pLen_t, pLen_l, pLen_s, pIn_ss, pNotIn_ss, pIn_s3, pIx_s, pIx_fu0, pIx_fu1, pIx_fu2, pIx_p0, pIx_p1, gT_fu, pEq_fu, pNe_fu, pEq_str, pNe_str, pLt_str, pGt_str, pIn_fl, pIn_ft, pNotIn_fl, pNotIn_ft, pIn_sl, pIn_st, pNotIn_sl, pNotIn_st, pIn_s2, pIx_dS, pIn_dS, pNotIn_dS, pSetK_dS, pLen_dS, pIx_dF, pIn_dF, pNotIn_dF, pSetT_dF, pLen_dF, List.length_map, slD_fu, slD_t, slD_l, slD_s, truD_i, truD_b, truD_n, truD_l, truD_t, revDt_l, revDt_t, fuD_eq, itemsS_t, itemsS_l, seqD_l, seqD_t, seqD_s]
    refine pSorted_dS .int es ?_
    have hp := srt_perm (es.map (·.1))
    have hl2 : (srt (es.map (·.1))).length = es.length := by rw [hp.length_eq, List.length_map]
    simp only [sCells, sAsg, sSeq, sIf, sSet, sRet, sRetN, sNext, sBoxPut, sPar, setAll, sExprM, mMeth, tyD, tBool, tTru, tAndM, tOrM, tNotM, m1, m2, mN, mV, mC, mCall, mBoxI, aNil, aCons, mIf, mTup, mLst, mLk, hasD, mAndV, mOrV, pNotB, aSeq, itemsS, aRng1, aRng2, aRng3, gN, gsNil, gsCons, gSt, pSetL, pLenB, isD, pSl, pSlL, oNone, oSome, pEq_int, pNe_int, pLt_int, pGt_int, pLe_int, pGe_int, mChain, aEnum, aZip, mCount, List.set_cons_zero, List.set_cons_succ, List.getElem?_cons_zero, List.getElem?_cons_succ, List.length_cons, List.length_nil, if_true, if_false, Bool.false_eq_true, true_and, and_true, decide_eq_true_eq, wipeD, tTrue, List.map_cons, List.map_nil, natD, at20, at21, at30, at31, at32, Option.some.injEq, exists_eq_left', gT_t, pAddE_i, pAddE_s, pAddE_l, pAddE_t, pAdd_i, pAddL_l, pSub_i, pMod_i, pFdiv_i, pNeg_i, pTupOf_l, pListOf_l, pListOf_t, pMin_i, pMax_i, pIs_n, pIs_b, pIsNot_n, pIsNot_b, pInt1_i, pAbs_i, qAppend_l, qExtend_l, qExtend_t, pSum_i, pAny_b, pAll_b, pRev, pRevL, pSl, pIx_t, pIx_l, pLen_map, pLen_mapT, pLen_net, pLen_t, pLen_l, pLen_s, pIn_ss, pNotIn_ss, pIn_s3, pIx_s, pIx_fu0, pIx_fu1, pIx_fu2, pIx_p0, pIx_p1, gT_fu, pEq_fu, pNe_fu, pEq_str, pNe_str, pLt_str, pGt_str, pIn_fl, pIn_ft, pNotIn_fl, pNotIn_ft, pIn_sl, pIn_st, pNotIn_sl, pNotIn_st, pIn_s2, pIx_dS, pIn_dS, pNotIn_dS, pSetK_dS, pLen_dS, pIx_dF, pIn_dF, pNotIn_dF, pSetT_dF, pLen_dF, List.length_map, slD_fu, slD_t, slD_l, slD_s, truD_i, truD_b, truD_n, truD_l, truD_t, revDt_l, revDt_t, fuD_eq, itemsS_t, itemsS_l, seqD_l, seqD_t, seqD_s]
    intro _
    refine mLcD_map (srt (es.map (·.1))) .str (fun k => .tuple [.str k, .int ((aget es k).getD 0)]) (by rw [hl2, sizeLine_eq]; omega) (fun k hk P N hq => ?_) ?_
    · have hk' := aget_key.mpr (srt_mem.mp hk)
      obtain ⟨v, hv⟩ := Option.isSome_iff_exists.mp hk'
      rw [hv] at hq
      simp only [sCells, sAsg, sSeq, sIf, sSet, sRet, sRetN, sNext, sBoxPut, sPar, setAll, sExprM, mMeth, tyD, tBool, tTru, tAndM, tOrM, tNotM, m1, m2, mN, mV, mC, mCall, mBoxI, aNil, aCons, mIf, mTup, mLst, mLk, hasD, mAndV, mOrV, pNotB, aSeq, itemsS, aRng1, aRng2, aRng3, gN, gsNil, gsCons, gSt, pSetL, pLenB, isD, pSl, pSlL, oNone, oSome, pEq_int, pNe_int, pLt_int, pGt_int, pLe_int, pGe_int, mChain, aEnum, aZip, mCount, List.set_cons_zero, List.set_cons_succ, List.getElem?_cons_zero, List.getElem?_cons_succ, List.length_cons, List.length_nil, if_true, if_false, Bool.false_eq_true, true_and, and_true, decide_eq_true_eq, wipeD, tTrue, List.map_cons, List.map_nil, natD, at20, at21, at30, at31, at32, Option.some.injEq, exists_eq_left', gT_t, pAddE_i, pAddE_s, pAddE_l, pAddE_t, pAdd_i, pAddL_l, pSub_i, pMod_i, pFdiv_i, pNeg_i, pTupOf_l, pListOf_l, pListOf_t, pMin_i, pMax_i, pIs_n, pIs_b, pIsNot_n, pIsNot_b, pInt1_i, pAbs_i, qAppend_l, qExtend_l, qExtend_t, pSum_i, pAny_b, pAll_b, pRev, pRevL, pSl, pIx_t, pIx_l, pLen_map, pLen_mapT, pLen_net, pLen_t, pLen_l, pLen_s, pIn_ss, pNotIn_ss, pIn_s3, pIx_s, pIx_fu0, pIx_fu1, pIx_fu2, pIx_p0, pIx_p1, gT_fu, pEq_fu, pNe_fu, pEq_str, pNe_str, pLt_str, pGt_str, pIn_fl, pIn_ft, pNotIn_fl, pNotIn_ft, pIn_sl, pIn_st, pNotIn_sl, pNotIn_st, pIn_s2, pIx_dS, pIn_dS, pNotIn_dS, pSetK_dS, pLen_dS, pIx_dF, pIn_dF, pNotIn_dF, pSetT_dF, pLen_dF, List.length_map, slD_fu, slD_t, slD_l, slD_s, truD_i, truD_b, truD_n, truD_l, truD_t, revDt_l, revDt_t, fuD_eq, itemsS_t, itemsS_l, seqD_l, seqD_t, seqD_s]
      exact ⟨v, hv, by decide, hq⟩
    · simp only [sCells, sAsg, sSeq, sIf, sSet, sRet, sRetN, sNext, sBoxPut, sPar, setAll, sExprM, mMeth, tyD, tBool, tTru, tAndM, tOrM, tNotM, m1, m2, mN, mV, mC, mCall, mBoxI, aNil, aCons, mIf, mTup, mLst, mLk, hasD, mAndV, mOrV, pNotB, aSeq, itemsS, aRng1, aRng2, aRng3, gN, gsNil, gsCons, gSt, pSetL, pLenB, isD, pSl, pSlL, oNone, oSome, pEq_int, pNe_int, pLt_int, pGt_int, pLe_int, pGe_int, mChain, aEnum, aZip, mCount, List.set_cons_zero, List.set_cons_succ, List.getElem?_cons_zero, List.getElem?_cons_succ, List.length_cons, List.length_nil, if_true, if_false, Bool.false_eq_true, true_and, and_true, decide_eq_true_eq, wipeD, tTrue, List.map_cons, List.map_nil, natD, at20, at21, at30, at31, at32, Option.some.injEq, exists_eq_left', gT_t, pAddE_i, pAddE_s, pAddE_l, pAddE_t, pAdd_i, pAddL_l, pSub_i, pMod_i, pFdiv_i, pNeg_i, pTupOf_l, pListOf_l, pListOf_t, pMin_i, pMax_i, pIs_n, pIs_b, pIsNot_n, pIsNot_b, pInt1_i, pAbs_i, qAppend_l, qExtend_l, qExtend_t, pSum_i, pAny_b, pAll_b, pRev, pRevL, pSl, pIx_t, pIx_l, pLen_map, pLen_mapT, pLen_net, pLen_t, pLen_l, pLen_s, pIn_ss, pNotIn_ss, pIn_s3, pIx_s, pIx_fu0, pIx_fu1, pIx_fu2, pIx_p0, pIx_p1, gT_fu, pEq_fu, pNe_fu, pEq_str, pNe_str, pLt_str, pGt_str, pIn_fl, pIn_ft, pNotIn_fl, pNotIn_ft, pIn_sl, pIn_st, pNotIn_sl, pNotIn_st, pIn_s2, pIx_dS, pIn_dS, pNotIn_dS, pSetK_dS, pLen_dS, pIx_dF, pIn_dF, pNotIn_dF, pSetT_dF, pLen_dF, List.length_map, slD_fu, slD_t, slD_l, slD_s, truD_i, truD_b, truD_n, truD_l, truD_t, revDt_l, revDt_t, fuD_eq, itemsS_t, itemsS_l, seqD_l, seqD_t, seqD_s]
      have := h ((srt (es.map (·.1))).map fun k => (k, (aget es k).getD 0)) ⟨?_, ?_, ?_, fun p hp => ?_, fun p hp => ?_⟩
      · simp only [lisD, List.map_map] at this; exact this
      · rw [List.map_map]
        show Asc ((srt (es.map (·.1))).map id)
        rw [List.map_id]; exact srt_strict nd
      · have := hpos (by omega)
        intro z
        have := congrArg List.length z
        rw [List.length_map, hl2, List.length_nil] at this
        omega
      · rw [List.length_map, hl2]; omega
      all_goals
        obtain ⟨k, hk, rfl⟩ := List.mem_map.mp hp
        have hk' := aget_key.mpr (srt_mem.mp hk)
        obtain ⟨v, hv⟩ := Option.isSome_iff_exists.mp hk'
        have := hg _ (aget_mem hv)
      · exact (km k).mp this.1
      · rw [hv]; exact this.2
theorem ok__law_free {f : Addr} {fd : FuncData} (F : Fun K "_law_free" "_law_free" s__law_free f fd) {f__law_begin : Addr} {fd__law_begin : FuncData} (F__law_begin : Fun K "_law_begin" "_law_begin" s__law_begin f__law_begin fd__law_begin) (g__law_begin : mg "_law_begin" = some (.ref f__law_begin)) (b__law_begin : Binds K fd__law_begin ["net", "lights", "fuse"] []) (G__law_begin : FnOk P w K mg base CX0 2 f__law_begin fd__law_begin ["net", "lights", "fuse"] (spD K 3 q__law_begin)) : FnOk P w K mg base CX0 3 f fd ["net", "lights", "moment"] (spD K 3 q__law_free) := by
  have nd := sc__law_free.nd
  refine fnD (φ := q__law_free) F sc__law_free i__law_free rfl rfl (by decide) (fun cdv A outer s H E hr => (dss_cons (ds_setLcV 3 [("fuse", 4)] [] ⟨by decide, by decide, by decide, by decide⟩ (by decide) (by decide) rfl nd rfl rfl (sw_true rfl rfl rfl (by decide +kernel)) (di_seq (dq (w_v 0))) (blkOk_by (by kernel_rfl)) (fun _ _ _ _ _ => (w_gn 4 nd)) (fun _ _ _ _ _ => dts_nil) (fun _ _ _ _ _ => (de_tup (dae_cons (w_v 4) (dae_cons (w_call G__law_begin (hr.mono (by omega)) g__law_begin F__law_begin.kp b__law_begin (dae_cons (w_v 0) (dae_cons (w_v 1) (dae_cons (w_v 4) dae_nil)))) dae_nil)))))
 (dss_one (ds_ret (de (df_lc [("fuse", 4), ("begin", 5)] [] ⟨by decide, by decide, by decide, by decide⟩ (by decide) rfl nd (di_seq (dq (w_v 3))) (blkOk_by (by kernel_rfl)) (fun _ _ _ _ _ => (dg_tup rfl (dgs_cons (w_gn 4 nd) (dgs_cons (w_gn 5 nd) dgs_nil)))) (fun _ _ _ _ _ => (dts_one (dt_w (dw_or (dt_cmp r_is (w_b 5) (db de_non)) (dw_or1 (dt_cmp (r_ge (hu200 hr)) (w_b 5) (w_b 2))))))) (fun _ _ _ _ _ => (w_v 4)))))))) ?_
  rintro ds Q hl ⟨net, L, m, rfl, hN, hL, h⟩
  rw [show startD ["net", "lights", "moment", "found", "fuse", "begin"] ([netD net, lisD L, .int m].map some) = [some (netD net), some (lisD L), some (.int m), none, none, none] from rfl]
  have hz := hN.len
  simp only [sCells, sAsg, sSeq, sIf, sSet, sRet, sRetN, sNext, sBoxPut, sPar, setAll, sExprM, mMeth, tyD, tBool, tTru, tAndM, tOrM, tNotM, m1, m2, mN, mV, mC, mCall, mBoxI, aNil, aCons, mIf, mTup, mLst, mLk, hasD, mAndV, mOrV, pNotB, aSeq, itemsS, aRng1, aRng2, aRng3, gN, gsNil, gsCons, gSt, pSetL, pLenB, isD, pSl, pSlL, oNone, oSome, pEq_int, pNe_int, pLt_int, pGt_int, pLe_int, pGe_int, mChain, aEnum, aZip, mCount, List.set_cons_zero, List.set_cons_succ, List.getElem?_cons_zero, List.getElem?_cons_succ, List.length_cons, List.length_nil, if_true, if_false, Bool.false_eq_true, true_and, and_true, decide_eq_true_eq, wipeD, tTrue, List.map_cons, List.map_nil, natD, at20, at21, at30, at31, at32, Option.some.injEq, exists_eq_left', gT_t, pAddE_i, pAddE_s, pAddE_l, pAddE_t, pAdd_i, pAddL_l, pSub_i, pMod_i, pFdiv_i, pNeg_i, pTupOf_l, pListOf_l, pListOf_t, pMin_i, pMax_i, pIs_n, pIs_b, pIsNot_n, pIsNot_b, pInt1_i, pAbs_i, qAppend_l, qExtend_l, qExtend_t, pSum_i, pAny_b, pAll_b, pRev, pRevL, pSl, pIx_t, pIx_l, pLen_map, pLen_mapT, pLen_net, pLen_t, pLen_l, pLen_s, pIn_ss, pNotIn_ss, pIn_s3, pIx_s, pIx_fu0, pIx_fu1, pIx_fu2, pIx_p0, pIx_p1, gT_fu, pEq_fu, pNe_fu, pEq_str, pNe_str, pLt_str, pGt_str, pIn_fl, pIn_ft, pNotIn_fl, pNotIn_ft, pIn_sl, pIn_st, pNotIn_sl, pNotIn_st, pIn_s2, pIx_dS, pIn_dS, pNotIn_dS, pSetK_dS, pLen_dS, pIx_dF, pIn_dF, pNotIn_dF, pSetT_dF, pLen_dF, List.length_map, slD_fu, slD_t, slD_l, slD_s, truD_i, truD_b, truD_n, truD_l, truD_t, revDt_l, revDt_t, fuD_eq, itemsS_t, itemsS_l, seqD_l, seqD_t, seqD_s]
  refine mLc_map net fuD (fun f => .tuple [fuD f, optI (bgn net L f)]) (fun R hR => ?_) (by rw [sizeLine_eq]; omega) (fun f hf P N hp => ?_) ?_
  · simp only [sCells, sAsg, sSeq, sIf, sSet, sRet, sRetN, sNext, sBoxPut, sPar, setAll, sExprM, mMeth, tyD, tBool, tTru, tAndM, tOrM, tNotM, m1, m2, mN, mV, mC, mCall, mBoxI, aNil, aCons, mIf, mTup, mLst, mLk, hasD, mAndV, mOrV, pNotB, aSeq, itemsS, aRng1, aRng2, aRng3, gN, gsNil, gsCons, gSt, pSetL, pLenB, isD, pSl, pSlL, oNone, oSome, pEq_int, pNe_int, pLt_int, pGt_int, pLe_int, pGe_int, mChain, aEnum, aZip, mCount, List.set_cons_zero, List.set_cons_succ, List.getElem?_cons_zero, List.getElem?_cons_succ, List.length_cons, List.length_nil, if_true, if_false, Bool.false_eq_true, true_and, and_true, decide_eq_true_eq, wipeD, tTrue, List.map_cons, List.map_nil, natD, at20, at21, at30, at31, at32, Option.some.injEq, exists_eq_left', gT_t, pAddE_i, pAddE_s, pAddE_l, pAddE_t, pAdd_i, pAddL_l, pSub_i, pMod_i, pFdiv_i, pNeg_i, pTupOf_l, pListOf_l, pListOf_t, pMin_i, pMax_i, pIs_n, pIs_b, pIsNot_n, pIsNot_b, pInt1_i, pAbs_i, qAppend_l, qExtend_l, qExtend_t, pSum_i, pAny_b, pAll_b, pRev, pRevL, pSl, pIx_t, pIx_l, pLen_map, pLen_mapT, pLen_net, pLen_t, pLen_l, pLen_s, pIn_ss, pNotIn_ss, pIn_s3, pIx_s, pIx_fu0, pIx_fu1, pIx_fu2, pIx_p0, pIx_p1, gT_fu, pEq_fu, pNe_fu, pEq_str, pNe_str, pLt_str, pGt_str, pIn_fl, pIn_ft, pNotIn_fl, pNotIn_ft, pIn_sl, pIn_st, pNotIn_sl, pNotIn_st, pIn_s2, pIx_dS, pIn_dS, pNotIn_dS, pSetK_dS, pLen_dS, pIx_dF, pIn_dF, pNotIn_dF, pSetT_dF, pLen_dF, List.length_map, slD_fu, slD_t, slD_l, slD_s, truD_i, truD_b, truD_n, truD_l, truD_t, revDt_l, revDt_t, fuD_eq, itemsS_t, itemsS_l, seqD_l, seqD_t, seqD_s]; exact fun _ => hR
  · simp only [sCells, sAsg, sSeq, sIf, sSet, sRet, sRetN, sNext, sBoxPut, sPar, setAll, sExprM, mMeth, tyD, tBool, tTru, tAndM, tOrM, tNotM, m1, m2, mN, mV, mC, mCall, mBoxI, aNil, aCons, mIf, mTup, mLst, mLk, hasD, mAndV, mOrV, pNotB, aSeq, itemsS, aRng1, aRng2, aRng3, gN, gsNil, gsCons, gSt, pSetL, pLenB, isD, pSl, pSlL, oNone, oSome, pEq_int, pNe_int, pLt_int, pGt_int, pLe_int, pGe_int, mChain, aEnum, aZip, mCount, List.set_cons_zero, List.set_cons_succ, List.getElem?_cons_zero, List.getElem?_cons_succ, List.length_cons, List.length_nil, if_true, if_false, Bool.false_eq_true, true_and, and_true, decide_eq_true_eq, wipeD, tTrue, List.map_cons, List.map_nil, natD, at20, at21, at30, at31, at32, Option.some.injEq, exists_eq_left', gT_t, pAddE_i, pAddE_s, pAddE_l, pAddE_t, pAdd_i, pAddL_l, pSub_i, pMod_i, pFdiv_i, pNeg_i, pTupOf_l, pListOf_l, pListOf_t, pMin_i, pMax_i, pIs_n, pIs_b, pIsNot_n, pIsNot_b, pInt1_i, pAbs_i, qAppend_l, qExtend_l, qExtend_t, pSum_i, pAny_b, pAll_b, pRev, pRevL, pSl, pIx_t, pIx_l, pLen_map, pLen_mapT, pLen_net, pLen_t, pLen_l, pLen_s, pIn_ss, pNotIn_ss, pIn_s3, pIx_s, pIx_fu0, pIx_fu1, pIx_fu2, pIx_p0, pIx_p1, gT_fu, pEq_fu, pNe_fu, pEq_str, pNe_str, pLt_str, pGt_str, pIn_fl, pIn_ft, pNotIn_fl, pNotIn_ft, pIn_sl, pIn_st, pNotIn_sl, pNotIn_st, pIn_s2, pIx_dS, pIn_dS, pNotIn_dS, pSetK_dS, pLen_dS, pIx_dF, pIn_dF, pNotIn_dF, pSetT_dF, pLen_dF, List.length_map, slD_fu, slD_t, slD_l, slD_s, truD_i, truD_b, truD_n, truD_l, truD_t, revDt_l, revDt_t, fuD_eq, itemsS_t, itemsS_l, seqD_l, seqD_t, seqD_s, q__law_begin, q_begin_of]
    exact ⟨net, L, f, rfl, hN, hL, hf, by decide, hp⟩
  · refine mLc_filter net (fun f => .tuple [fuD f, optI (bgn net L f)]) fuD (freeP net L m) (fun R hR => ?_) (by rw [sizeLine_eq]; omega) (fun f hf P N hp hn => ?_) ?_
    · simp only [sCells, sAsg, sSeq, sIf, sSet, sRet, sRetN, sNext, sBoxPut, sPar, setAll, sExprM, mMeth, tyD, tBool, tTru, tAndM, tOrM, tNotM, m1, m2, mN, mV, mC, mCall, mBoxI, aNil, aCons, mIf, mTup, mLst, mLk, hasD, mAndV, mOrV, pNotB, aSeq, itemsS, aRng1, aRng2, aRng3, gN, gsNil, gsCons, gSt, pSetL, pLenB, isD, pSl, pSlL, oNone, oSome, pEq_int, pNe_int, pLt_int, pGt_int, pLe_int, pGe_int, mChain, aEnum, aZip, mCount, List.set_cons_zero, List.set_cons_succ, List.getElem?_cons_zero, List.getElem?_cons_succ, List.length_cons, List.length_nil, if_true, if_false, Bool.false_eq_true, true_and, and_true, decide_eq_true_eq, wipeD, tTrue, List.map_cons, List.map_nil, natD, at20, at21, at30, at31, at32, Option.some.injEq, exists_eq_left', gT_t, pAddE_i, pAddE_s, pAddE_l, pAddE_t, pAdd_i, pAddL_l, pSub_i, pMod_i, pFdiv_i, pNeg_i, pTupOf_l, pListOf_l, pListOf_t, pMin_i, pMax_i, pIs_n, pIs_b, pIsNot_n, pIsNot_b, pInt1_i, pAbs_i, qAppend_l, qExtend_l, qExtend_t, pSum_i, pAny_b, pAll_b, pRev, pRevL, pSl, pIx_t, pIx_l, pLen_map, pLen_mapT, pLen_net, pLen_t, pLen_l, pLen_s, pIn_ss, pNotIn_ss, pIn_s3, pIx_s, pIx_fu0, pIx_fu1, pIx_fu2, pIx_p0, pIx_p1, gT_fu, pEq_fu, pNe_fu, pEq_str, pNe_str, pLt_str, pGt_str, pIn_fl, pIn_ft, pNotIn_fl, pNotIn_ft, pIn_sl, pIn_st, pNotIn_sl, pNotIn_st, pIn_s2, pIx_dS, pIn_dS, pNotIn_dS, pSetK_dS, pLen_dS, pIx_dF, pIn_dF, pNotIn_dF, pSetT_dF, pLen_dF, List.length_map, slD_fu, slD_t, slD_l, slD_s, truD_i, truD_b, truD_n, truD_l, truD_t, revDt_l, revDt_t, fuD_eq, itemsS_t, itemsS_l, seqD_l, seqD_t, seqD_s]; exact fun _ => hR
    · unfold freeP at hp hn
      simp only [sCells, sAsg, sSeq, sIf, sSet, sRet, sRetN, sNext, sBoxPut, sPar, setAll, sExprM, mMeth, tyD, tBool, tTru, tAndM, tOrM, tNotM, m1, m2, mN, mV, mC, mCall, mBoxI, aNil, aCons, mIf, mTup, mLst, mLk, hasD, mAndV, mOrV, pNotB, aSeq, itemsS, aRng1, aRng2, aRng3, gN, gsNil, gsCons, gSt, pSetL, pLenB, isD, pSl, pSlL, oNone, oSome, pEq_int, pNe_int, pLt_int, pGt_int, pLe_int, pGe_int, mChain, aEnum, aZip, mCount, List.set_cons_zero, List.set_cons_succ, List.getElem?_cons_zero, List.getElem?_cons_succ, List.length_cons, List.length_nil, if_true, if_false, Bool.false_eq_true, true_and, and_true, decide_eq_true_eq, wipeD, tTrue, List.map_cons, List.map_nil, natD, at20, at21, at30, at31, at32, Option.some.injEq, exists_eq_left', gT_t, pAddE_i, pAddE_s, pAddE_l, pAddE_t, pAdd_i, pAddL_l, pSub_i, pMod_i, pFdiv_i, pNeg_i, pTupOf_l, pListOf_l, pListOf_t, pMin_i, pMax_i, pIs_n, pIs_b, pIsNot_n, pIsNot_b, pInt1_i, pAbs_i, qAppend_l, qExtend_l, qExtend_t, pSum_i, pAny_b, pAll_b, pRev, pRevL, pSl, pIx_t, pIx_l, pLen_map, pLen_mapT, pLen_net, pLen_t, pLen_l, pLen_s, pIn_ss, pNotIn_ss, pIn_s3, pIx_s, pIx_fu0, pIx_fu1, pIx_fu2, pIx_p0, pIx_p1, gT_fu, pEq_fu, pNe_fu, pEq_str, pNe_str, pLt_str, pGt_str, pIn_fl, pIn_ft, pNotIn_fl, pNotIn_ft, pIn_sl, pIn_st, pNotIn_sl, pNotIn_st, pIn_s2, pIx_dS, pIn_dS, pNotIn_dS, pSetK_dS, pLen_dS, pIx_dF, pIn_dF, pNotIn_dF, pSetT_dF, pLen_dF, List.length_map, slD_fu, slD_t, slD_l, slD_s, truD_i, truD_b, truD_n, truD_l, truD_t, revDt_l, revDt_t, fuD_eq, itemsS_t, itemsS_l, seqD_l, seqD_t, seqD_s]
      cases eb : bgn net L f with
      | none => rw [eb] at hp; simp only [sCells, sAsg, sSeq, sIf, sSet, sRet, sRetN, sNext, sBoxPut, sPar, setAll, sExprM, mMeth, tyD, tBool, tTru, tAndM, tOrM, tNotM, m1, m2, mN, mV, mC, mCall, mBoxI, aNil, aCons, mIf, mTup, mLst, mLk, hasD, mAndV, mOrV, pNotB, aSeq, itemsS, aRng1, aRng2, aRng3, gN, gsNil, gsCons, gSt, pSetL, pLenB, isD, pSl, pSlL, oNone, oSome, pEq_int, pNe_int, pLt_int, pGt_int, pLe_int, pGe_int, mChain, aEnum, aZip, mCount, List.set_cons_zero, List.set_cons_succ, List.getElem?_cons_zero, List.getElem?_cons_succ, List.length_cons, List.length_nil, if_true, if_false, Bool.false_eq_true, true_and, and_true, decide_eq_true_eq, wipeD, tTrue, List.map_cons, List.map_nil, natD, at20, at21, at30, at31, at32, Option.some.injEq, exists_eq_left', gT_t, pAddE_i, pAddE_s, pAddE_l, pAddE_t, pAdd_i, pAddL_l, pSub_i, pMod_i, pFdiv_i, pNeg_i, pTupOf_l, pListOf_l, pListOf_t, pMin_i, pMax_i, pIs_n, pIs_b, pIsNot_n, pIsNot_b, pInt1_i, pAbs_i, qAppend_l, qExtend_l, qExtend_t, pSum_i, pAny_b, pAll_b, pRev, pRevL, pSl, pIx_t, pIx_l, pLen_map, pLen_mapT, pLen_net, pLen_t, pLen_l, pLen_s, pIn_ss, pNotIn_ss, pIn_s3, pIx_s, pIx_fu0, pIx_fu1, pIx_fu2, pIx_p0, pIx_p1, gT_fu, pEq_fu, pNe_fu, pEq_str, pNe_str, pLt_str, pGt_str, pIn_fl, pIn_ft, pNotIn_fl, pNotIn_ft, pIn_sl, pIn_st, pNotIn_sl, pNotIn_st, pIn_s2, pIx_dS, pIn_dS, pNotIn_dS, pSetK_dS, pLen_dS, pIx_dF, pIn_dF, pNotIn_dF, pSetT_dF, pLen_dF, List.length_map, slD_fu, slD_t, slD_l, slD_s, truD_i, truD_b, truD_n, truD_l, truD_t, revDt_l, revDt_t, fuD_eq, itemsS_t, itemsS_l, seqD_l, seqD_t, seqD_s, optI]; exact hp rfl
      | some b =>
        rw [eb] at hp hn
        simp only [sCells, sAsg, sSeq, sIf, sSet, sRet, sRetN, sNext, sBoxPut, sPar, setAll, sExprM, mMeth, tyD, tBool, tTru, tAndM, tOrM, tNotM, m1, m2, mN, mV, mC, mCall, mBoxI, aNil, aCons, mIf, mTup, mLst, mLk, hasD, mAndV, mOrV, pNotB, aSeq, itemsS, aRng1, aRng2, aRng3, gN, gsNil, gsCons, gSt, pSetL, pLenB, isD, pSl, pSlL, oNone, oSome, pEq_int, pNe_int, pLt_int, pGt_int, pLe_int, pGe_int, mChain, aEnum, aZip, mCount, List.set_cons_zero, List.set_cons_succ, List.getElem?_cons_zero, List.getElem?_cons_succ, List.length_cons, List.length_nil, if_true, if_false, Bool.false_eq_true, true_and, and_true, decide_eq_true_eq, wipeD, tTrue, List.map_cons, List.map_nil, natD, at20, at21, at30, at31, at32, Option.some.injEq, exists_eq_left', gT_t, pAddE_i, pAddE_s, pAddE_l, pAddE_t, pAdd_i, pAddL_l, pSub_i, pMod_i, pFdiv_i, pNeg_i, pTupOf_l, pListOf_l, pListOf_t, pMin_i, pMax_i, pIs_n, pIs_b, pIsNot_n, pIsNot_b, pInt1_i, pAbs_i, qAppend_l, qExtend_l, qExtend_t, pSum_i, pAny_b, pAll_b, pRev, pRevL, pSl, pIx_t, pIx_l, pLen_map, pLen_mapT, pLen_net, pLen_t, pLen_l, pLen_s, pIn_ss, pNotIn_ss, pIn_s3, pIx_s, pIx_fu0, pIx_fu1, pIx_fu2, pIx_p0, pIx_p1, gT_fu, pEq_fu, pNe_fu, pEq_str, pNe_str, pLt_str, pGt_str, pIn_fl, pIn_ft, pNotIn_fl, pNotIn_ft, pIn_sl, pIn_st, pNotIn_sl, pNotIn_st, pIn_s2, pIx_dS, pIn_dS, pNotIn_dS, pSetK_dS, pLen_dS, pIx_dF, pIn_dF, pNotIn_dF, pSetT_dF, pLen_dF, List.length_map, slD_fu, slD_t, slD_l, slD_s, truD_i, truD_b, truD_n, truD_l, truD_t, revDt_l, revDt_t, fuD_eq, itemsS_t, itemsS_l, seqD_l, seqD_t, seqD_s, optI]
        by_cases c : m ≤ b
        · rw [if_pos c]; exact hp (by simpa using c)
        · rw [if_neg c]; exact hn (by simpa using c)
    · exact h
theorem ok_can_be_cut {f : Addr} {fd : FuncData} (F : Fun K "can_be_cut" "can_be_cut" s_can_be_cut f fd) (m_tuple : mg "tuple" = none) {f_begin_of : Addr} {fd_begin_of : FuncData} (F_begin_of : Fun K "begin_of" "begin_of" s_begin_of f_begin_of fd_begin_of) (g_begin_of : mg "begin_of" = some (.ref f_begin_of)) (b_begin_of : Binds K fd_begin_of ["net", "lights", "fuse"] []) (G_begin_of : FnOk P w K mg base CX0 3 f_begin_of fd_begin_of ["net", "lights", "fuse"] (spD K 3 q_begin_of)) : FnOk P w K mg base CX0 4 f fd ["net", "lights", "moment"] (spD K 3 q_can_be_cut) := by
  have nd := sc_can_be_cut.nd
  refine fnD (φ := q_can_be_cut) F sc_can_be_cut i_can_be_cut rfl rfl (by decide) (fun cdv A outer s H E hr => (dss_cons (w_setO 3 nd (df_lst dae_nil))
 (dss_cons (ds_for [] (by decide) rfl (di_seq (dq (w_v 0))) (dgw (w_gn 4 nd))
 (dss_cons (w_set 5 nd (w_call G_begin_of (hr.mono (by omega)) g_begin_of F_begin_of.kp b_begin_of (dae_cons (w_v 0) (dae_cons (w_v 1) (dae_cons (w_v 4) dae_nil)))))
 (dss_one (ds_if (dt_w (dw_or (dt_cmp r_is (w_b 5) (db de_non)) (dw_or1 (dt_cmp (r_ge (hu200 hr)) (w_b 5) (w_b 2)))))
 (dss_one (ds_exprM (w_app 3 (dae_cons (w_v 4) dae_nil))))
 dss_nil))) PassesOwn.never)
 (dss_one (ds_ret (de_bty r_tupOf (by rfl) m_tuple boot_tuple (dab_cons (w_b 3) dab_nil))))))) ?_
  rintro ds Q hl ⟨net, L, m, rfl, hN, hL, h⟩
  rw [show startD ["net", "lights", "moment", "found", "fuse", "begin"] ([netD net, lisD L, .int m].map some) = [some (netD net), some (lisD L), some (.int m), none, none, none] from rfl]
  simp only [sCells, sAsg, sSeq, sIf, sSet, sRet, sRetN, sNext, sBoxPut, sPar, setAll, sExprM, mMeth, tyD, tBool, tTru, tAndM, tOrM, tNotM, m1, m2, mN, mV, mC, mCall, mBoxI, aNil, aCons, mIf, mTup, mLst, mLk, hasD, mAndV, mOrV, pNotB, aSeq, itemsS, aRng1, aRng2, aRng3, gN, gsNil, gsCons, gSt, pSetL, pLenB, isD, pSl, pSlL, oNone, oSome, pEq_int, pNe_int, pLt_int, pGt_int, pLe_int, pGe_int, mChain, aEnum, aZip, mCount, List.set_cons_zero, List.set_cons_succ, List.getElem?_cons_zero, List.getElem?_cons_succ, List.length_cons, List.length_nil, if_true, if_false, Bool.false_eq_true, true_and, and_true, decide_eq_true_eq, wipeD, tTrue, List.map_cons, List.map_nil, natD, at20, at21, at30, at31, at32, Option.some.injEq, exists_eq_left', gT_t, pAddE_i, pAddE_s, pAddE_l, pAddE_t, pAdd_i, pAddL_l, pSub_i, pMod_i, pFdiv_i, pNeg_i, pTupOf_l, pListOf_l, pListOf_t, pMin_i, pMax_i, pIs_n, pIs_b, pIsNot_n, pIsNot_b, pInt1_i, pAbs_i, qAppend_l, qExtend_l, qExtend_t, pSum_i, pAny_b, pAll_b, pRev, pRevL, pSl, pIx_t, pIx_l, pLen_map, pLen_mapT, pLen_net, pLen_t, pLen_l, pLen_s, pIn_ss, pNotIn_ss, pIn_s3, pIx_s, pIx_fu0, pIx_fu1, pIx_fu2, pIx_p0, pIx_p1, gT_fu, pEq_fu, pNe_fu, pEq_str, pNe_str, pLt_str, pGt_str, pIn_fl, pIn_ft, pNotIn_fl, pNotIn_ft, pIn_sl, pIn_st, pNotIn_sl, pNotIn_st, pIn_s2, pIx_dS, pIn_dS, pNotIn_dS, pSetK_dS, pLen_dS, pIx_dF, pIn_dF, pNotIn_dF, pSetT_dF, pLen_dF, List.length_map, slD_fu, slD_t, slD_l, slD_s, truD_i, truD_b, truD_n, truD_l, truD_t, revDt_l, revDt_t, fuD_eq, itemsS_t, itemsS_l, seqD_l, seqD_t, seqD_s]
  have hz := hN.len
  refine ⟨by decide, ?_⟩
  refine sFor_go net fuD (fun i ρ => ∃ o1 o2, ρ = [some (netD net), some (lisD L), some (.int m), some (.list (((net.take i).filter (freeP net L m)).map fuD)), o1, o2]) (fun R hR => ?_) ⟨_, _, rfl⟩ ?_ ?_
  · simp only [sCells, sAsg, sSeq, sIf, sSet, sRet, sRetN, sNext, sBoxPut, sPar, setAll, sExprM, mMeth, tyD, tBool, tTru, tAndM, tOrM, tNotM, m1, m2, mN, mV, mC, mCall, mBoxI, aNil, aCons, mIf, mTup, mLst, mLk, hasD, mAndV, mOrV, pNotB, aSeq, itemsS, aRng1, aRng2, aRng3, gN, gsNil, gsCons, gSt, pSetL, pLenB, isD, pSl, pSlL, oNone, oSome, pEq_int, pNe_int, pLt_int, pGt_int, pLe_int, pGe_int, mChain, aEnum, aZip, mCount, List.set_cons_zero, List.set_cons_succ, List.getElem?_cons_zero, List.getElem?_cons_succ, List.length_cons, List.length_nil, if_true, if_false, Bool.false_eq_true, true_and, and_true, decide_eq_true_eq, wipeD, tTrue, List.map_cons, List.map_nil, natD, at20, at21, at30, at31, at32, Option.some.injEq, exists_eq_left', gT_t, pAddE_i, pAddE_s, pAddE_l, pAddE_t, pAdd_i, pAddL_l, pSub_i, pMod_i, pFdiv_i, pNeg_i, pTupOf_l, pListOf_l, pListOf_t, pMin_i, pMax_i, pIs_n, pIs_b, pIsNot_n, pIsNot_b, pInt1_i, pAbs_i, qAppend_l, qExtend_l, qExtend_t, pSum_i, pAny_b, pAll_b, pRev, pRevL, pSl, pIx_t, pIx_l, pLen_map, pLen_mapT, pLen_net, pLen_t, pLen_l, pLen_s, pIn_ss, pNotIn_ss, pIn_s3, pIx_s, pIx_fu0, pIx_fu1, pIx_fu2, pIx_p0, pIx_p1, gT_fu, pEq_fu, pNe_fu, pEq_str, pNe_str, pLt_str, pGt_str, pIn_fl, pIn_ft, pNotIn_fl, pNotIn_ft, pIn_sl, pIn_st, pNotIn_sl, pNotIn_st, pIn_s2, pIx_dS, pIn_dS, pNotIn_dS, pSetK_dS, pLen_dS, pIx_dF, pIn_dF, pNotIn_dF, pSetT_dF, pLen_dF, List.length_map, slD_fu, slD_t, slD_l, slD_s, truD_i, truD_b, truD_n, truD_l, truD_t, revDt_l, revDt_t, fuD_eq, itemsS_t, itemsS_l, seqD_l, seqD_t, seqD_s]; exact fun _ => hR
  · rintro i f _ hf ⟨o1, o2, rfl⟩
    have hsz := filter_take_le (freeP net L m) net i
    simp only [sCells, sAsg, sSeq, sIf, sSet, sRet, sRetN, sNext, sBoxPut, sPar, setAll, sExprM, mMeth, tyD, tBool, tTru, tAndM, tOrM, tNotM, m1, m2, mN, mV, mC, mCall, mBoxI, aNil, aCons, mIf, mTup, mLst, mLk, hasD, mAndV, mOrV, pNotB, aSeq, itemsS, aRng1, aRng2, aRng3, gN, gsNil, gsCons, gSt, pSetL, pLenB, isD, pSl, pSlL, oNone, oSome, pEq_int, pNe_int, pLt_int, pGt_int, pLe_int, pGe_int, mChain, aEnum, aZip, mCount, List.set_cons_zero, List.set_cons_succ, List.getElem?_cons_zero, List.getElem?_cons_succ, List.length_cons, List.length_nil, if_true, if_false, Bool.false_eq_true, true_and, and_true, decide_eq_true_eq, wipeD, tTrue, List.map_cons, List.map_nil, natD, at20, at21, at30, at31, at32, Option.some.injEq, exists_eq_left', gT_t, pAddE_i, pAddE_s, pAddE_l, pAddE_t, pAdd_i, pAddL_l, pSub_i, pMod_i, pFdiv_i, pNeg_i, pTupOf_l, pListOf_l, pListOf_t, pMin_i, pMax_i, pIs_n, pIs_b, pIsNot_n, pIsNot_b, pInt1_i, pAbs_i, qAppend_l, qExtend_l, qExtend_t, pSum_i, pAny_b, pAll_b, pRev, pRevL, pSl, pIx_t, pIx_l, pLen_map, pLen_mapT, pLen_net, pLen_t, pLen_l, pLen_s, pIn_ss, pNotIn_ss, pIn_s3, pIx_s, pIx_fu0, pIx_fu1, pIx_fu2, pIx_p0, pIx_p1, gT_fu, pEq_fu, pNe_fu, pEq_str, pNe_str, pLt_str, pGt_str, pIn_fl, pIn_ft, pNotIn_fl, pNotIn_ft, pIn_sl, pIn_st, pNotIn_sl, pNotIn_st, pIn_s2, pIx_dS, pIn_dS, pNotIn_dS, pSetK_dS, pLen_dS, pIx_dF, pIn_dF, pNotIn_dF, pSetT_dF, pLen_dF, List.length_map, slD_fu, slD_t, slD_l, slD_s, truD_i, truD_b, truD_n, truD_l, truD_t, revDt_l, revDt_t, fuD_eq, itemsS_t, itemsS_l, seqD_l, seqD_t, seqD_s, q_begin_of]
    refine ⟨net, L, f, rfl, hN, hL, List.mem_of_getElem? hf, ?_⟩
    rw [filter_succ _ hf]
    unfold freeP
    cases eb : bgn net L f with
    | none =>
      simp only [sCells, sAsg, sSeq, sIf, sSet, sRet, sRetN, sNext, sBoxPut, sPar, setAll, sExprM, mMeth, tyD, tBool, tTru, tAndM, tOrM, tNotM, m1, m2, mN, mV, mC, mCall, mBoxI, aNil, aCons, mIf, mTup, mLst, mLk, hasD, mAndV, mOrV, pNotB, aSeq, itemsS, aRng1, aRng2, aRng3, gN, gsNil, gsCons, gSt, pSetL, pLenB, isD, pSl, pSlL, oNone, oSome, pEq_int, pNe_int, pLt_int, pGt_int, pLe_int, pGe_int, mChain, aEnum, aZip, mCount, List.set_cons_zero, List.set_cons_succ, List.getElem?_cons_zero, List.getElem?_cons_succ, List.length_cons, List.length_nil, if_true, if_false, Bool.false_eq_true, true_and, and_true, decide_eq_true_eq, wipeD, tTrue, List.map_cons, List.map_nil, natD, at20, at21, at30, at31, at32, Option.some.injEq, exists_eq_left', gT_t, pAddE_i, pAddE_s, pAddE_l, pAddE_t, pAdd_i, pAddL_l, pSub_i, pMod_i, pFdiv_i, pNeg_i, pTupOf_l, pListOf_l, pListOf_t, pMin_i, pMax_i, pIs_n, pIs_b, pIsNot_n, pIsNot_b, pInt1_i, pAbs_i, qAppend_l, qExtend_l, qExtend_t, pSum_i, pAny_b, pAll_b, pRev, pRevL, pSl, pIx_t, pIx_l, pLen_map, pLen_mapT, pLen_net, pLen_t, pLen_l, pLen_s, pIn_ss, pNotIn_ss, pIn_s3, pIx_s, pIx_fu0, pIx_fu1, pIx_fu2, pIx_p0, pIx_p1, gT_fu, pEq_fu, pNe_fu, pEq_str, pNe_str, pLt_str, pGt_str, pIn_fl, pIn_ft, pNotIn_fl, pNotIn_ft, pIn_sl, pIn_st, pNotIn_sl, pNotIn_st, pIn_s2, pIx_dS, pIn_dS, pNotIn_dS, pSetK_dS, pLen_dS, pIx_dF, pIn_dF, pNotIn_dF, pSetT_dF, pLen_dF, List.length_map, slD_fu, slD_t, slD_l, slD_s, truD_i, truD_b, truD_n, truD_l, truD_t, revDt_l, revDt_t, fuD_eq, itemsS_t, itemsS_l, seqD_l, seqD_t, seqD_s, optI, List.map_append]
      exact ⟨by rw [sizeLine_eq]; unfold freeP at hsz; omega, _, _, rfl⟩
    | some b =>
      simp only [sCells, sAsg, sSeq, sIf, sSet, sRet, sRetN, sNext, sBoxPut, sPar, setAll, sExprM, mMeth, tyD, tBool, tTru, tAndM, tOrM, tNotM, m1, m2, mN, mV, mC, mCall, mBoxI, aNil, aCons, mIf, mTup, mLst, mLk, hasD, mAndV, mOrV, pNotB, aSeq, itemsS, aRng1, aRng2, aRng3, gN, gsNil, gsCons, gSt, pSetL, pLenB, isD, pSl, pSlL, oNone, oSome, pEq_int, pNe_int, pLt_int, pGt_int, pLe_int, pGe_int, mChain, aEnum, aZip, mCount, List.set_cons_zero, List.set_cons_succ, List.getElem?_cons_zero, List.getElem?_cons_succ, List.length_cons, List.length_nil, if_true, if_false, Bool.false_eq_true, true_and, and_true, decide_eq_true_eq, wipeD, tTrue, List.map_cons, List.map_nil, natD, at20, at21, at30, at31, at32, Option.some.injEq, exists_eq_left', gT_t, pAddE_i, pAddE_s, pAddE_l, pAddE_t, pAdd_i, pAddL_l, pSub_i, pMod_i, pFdiv_i, pNeg_i, pTupOf_l, pListOf_l, pListOf_t, pMin_i, pMax_i, pIs_n, pIs_b, pIsNot_n, pIsNot_b, pInt1_i, pAbs_i, qAppend_l, qExtend_l, qExtend_t, pSum_i, pAny_b, pAll_b, pRev, pRevL, pSl, pIx_t, pIx_l, pLen_map, pLen_mapT, pLen_net, pLen_t, pLen_l, pLen_s, pIn_ss, pNotIn_ss, pIn_s3, pIx_s, pIx_fu0, pIx_fu1, pIx_fu2, pIx_p0, pIx_p1, gT_fu, pEq_fu, pNe_fu, pEq_str, pNe_str, pLt_str, pGt_str, pIn_fl, pIn_ft, pNotIn_fl, pNotIn_ft, pIn_sl, pIn_st, pNotIn_sl, pNotIn_st, pIn_s2, pIx_dS, pIn_dS, pNotIn_dS, pSetK_dS, pLen_dS, pIx_dF, pIn_dF, pNotIn_dF, pSetT_dF, pLen_dF, List.length_map, slD_fu, slD_t, slD_l, slD_s, truD_i, truD_b, truD_n, truD_l, truD_t, revDt_l, revDt_t, fuD_eq, itemsS_t, itemsS_l, seqD_l, seqD_t, seqD_s, optI, List.map_append]
      by_cases c : m ≤ b
      · rw [if_pos c, if_pos c]
        exact ⟨by rw [sizeLine_eq]; unfold freeP at hsz; omega, _, _, rfl⟩
      · rw [if_neg c, if_neg c]
        exact ⟨some (fuD f), some (.int b), by simp⟩
  · rintro _ ⟨o1, o2, rfl⟩
    simp only [sCells, sAsg, sSeq, sIf, sSet, sRet, sRetN, sNext, sBoxPut, sPar, setAll, sExprM, mMeth, tyD, tBool, tTru, tAndM, tOrM, tNotM, m1, m2, mN, mV, mC, mCall, mBoxI, aNil, aCons, mIf, mTup, mLst, mLk, hasD, mAndV, mOrV, pNotB, aSeq, itemsS, aRng1, aRng2, aRng3, gN, gsNil, gsCons, gSt, pSetL, pLenB, isD, pSl, pSlL, oNone, oSome, pEq_int, pNe_int, pLt_int, pGt_int, pLe_int, pGe_int, mChain, aEnum, aZip, mCount, List.set_cons_zero, List.set_cons_succ, List.getElem?_cons_zero, List.getElem?_cons_succ, List.length_cons, List.length_nil, if_true, if_false, Bool.false_eq_true, true_and, and_true, decide_eq_true_eq, wipeD, tTrue, List.map_cons, List.map_nil, natD, at20, at21, at30, at31, at32, Option.some.injEq, exists_eq_left', gT_t, pAddE_i, pAddE_s, pAddE_l, pAddE_t, pAdd_i, pAddL_l, pSub_i, pMod_i, pFdiv_i, pNeg_i, pTupOf_l, pListOf_l, pListOf_t, pMin_i, pMax_i, pIs_n, pIs_b, pIsNot_n, pIsNot_b, pInt1_i, pAbs_i, qAppend_l, qExtend_l, qExtend_t, pSum_i, pAny_b, pAll_b, pRev, pRevL, pSl, pIx_t, pIx_l, pLen_map, pLen_mapT, pLen_net, pLen_t, pLen_l, pLen_s, pIn_ss, pNotIn_ss, pIn_s3, pIx_s, pIx_fu0, pIx_fu1, pIx_fu2, pIx_p0, pIx_p1, gT_fu, pEq_fu, pNe_fu, pEq_str, pNe_str, pLt_str, pGt_str, pIn_fl, pIn_ft, pNotIn_fl, pNotIn_ft, pIn_sl, pIn_st, pNotIn_sl, pNotIn_st, pIn_s2, pIx_dS, pIn_dS, pNotIn_dS, pSetK_dS, pLen_dS, pIx_dF, pIn_dF, pNotIn_dF, pSetT_dF, pLen_dF, List.length_map, slD_fu, slD_t, slD_l, slD_s, truD_i, truD_b, truD_n, truD_l, truD_t, revDt_l, revDt_t, fuD_eq, itemsS_t, itemsS_l, seqD_l, seqD_t, seqD_s, List.take_length]
    exact h
theorem ok_saved_length {f : Addr} {fd : FuncData} (F : Fun K "saved_length" "saved_length" s_saved_length f fd) (m_sum : mg "sum" = none) {f_unburnt : Addr} {fd_unburnt : FuncData} (F_unburnt : Fun K "unburnt" "unburnt" s_unburnt f_unburnt fd_unburnt) (g_unburnt : mg "unburnt" = some (.ref f_unburnt)) (b_unburnt : Binds K fd_unburnt ["net", "lights"] []) (G_unburnt : FnOk P w K mg base CX0 3 f_unburnt fd_unburnt ["net", "lights"] (spD K 2 q_unburnt)) {f_net_without : Addr} {fd_net_without : FuncData} (F_net_without : Fun K "net_without" "net_without" s_net_without f_net_without fd_net_without) (g_net_without : mg "net_without" = some (.ref f_net_without)) (b_net_without : Binds K fd_net_without ["net", "cut"] []) (G_net_without : FnOk P w K mg base CX0 1 f_net_without fd_net_without ["net", "cut"] (spD K 2 q_net_without)) : FnOk P w K mg base CX0 4 f fd ["net", "lights", "cut"] (spD K 3 q_saved_length) := by
  have nd := sc_saved_length.nd
  refine fnD (φ := q_saved_length) F sc_saved_length i_saved_length rfl rfl (by decide) (fun cdv A outer s H E hr => (dss_cons (w_set 3 nd (w_call G_net_without (hr.mono (by omega)) g_net_without F_net_without.kp b_net_without (dae_cons (w_v 0) (dae_cons (w_v 2) dae_nil))))
 (dss_cons (w_set 4 nd (de_if (dt_tru (w_b 3)) (w_call G_unburnt (hr.mono (by omega)) g_unburnt F_unburnt.kp b_unburnt (dae_cons (w_v 3) (dae_cons (w_v 1) dae_nil))) (de_tup dae_nil)))
 (dss_one (ds_ret (de_bi (r_sum rfl) (by rfl) m_sum boot_sum (dab_cons (db (de (df_lc [("fuse", 5)] [] ⟨by decide, by decide, by decide, by decide⟩ (by decide) rfl nd (di_seq (dq (w_v 0))) (blkOk_by (by kernel_rfl)) (fun _ _ _ _ _ => (w_gn 5 nd)) (fun _ _ _ _ _ => (dts_one (dt_w (dw_or (dt_cmpM (r_in (hu200 hr)) (w_v 5) (w_b 2)) (dw_or1 (dt_cmpM (r_in (hu200 hr)) (w_v 5) (w_b 4))))))) (fun _ _ _ _ _ => (de_ix (hu200 hr) (w_b 5) de_int))))) dab_nil))))))) ?_
  rintro ds Q hl ⟨net, L, cut, rfl, hN, hL, h⟩
  rw [show startD ["net", "lights", "cut", "rest", "kept", "fuse"] ([netD net, lisD L, netD cut].map some) = [some (netD net), some (lisD L), some (netD cut), none, none, none] from rfl]
  simp only [sCells, sAsg, sSeq, sIf, sSet, sRet, sRetN, sNext, sBoxPut, sPar, setAll, sExprM, mMeth, tyD, tBool, tTru, tAndM, tOrM, tNotM, m1, m2, mN, mV, mC, mCall, mBoxI, aNil, aCons, mIf, mTup, mLst, mLk, hasD, mAndV, mOrV, pNotB, aSeq, itemsS, aRng1, aRng2, aRng3, gN, gsNil, gsCons, gSt, pSetL, pLenB, isD, pSl, pSlL, oNone, oSome, pEq_int, pNe_int, pLt_int, pGt_int, pLe_int, pGe_int, mChain, aEnum, aZip, mCount, List.set_cons_zero, List.set_cons_succ, List.getElem?_cons_zero, List.getElem?_cons_succ, List.length_cons, List.length_nil, if_true, if_false, Bool.false_eq_true, true_and, and_true, decide_eq_true_eq, wipeD, tTrue, List.map_cons, List.map_nil, natD, at20, at21, at30, at31, at32, Option.some.injEq, exists_eq_left', gT_t, pAddE_i, pAddE_s, pAddE_l, pAddE_t, pAdd_i, pAddL_l, pSub_i, pMod_i, pFdiv_i, pNeg_i, pTupOf_l, pListOf_l, pListOf_t, pMin_i, pMax_i, pIs_n, pIs_b, pIsNot_n, pIsNot_b, pInt1_i, pAbs_i, qAppend_l, qExtend_l, qExtend_t, pSum_i, pAny_b, pAll_b, pRev, pRevL, pSl, pIx_t, pIx_l, pLen_map, pLen_mapT, pLen_net, pLen_t, pLen_l, pLen_s, pIn_ss, pNotIn_ss, pIn_s3, pIx_s, pIx_fu0, pIx_fu1, pIx_fu2, pIx_p0, pIx_p1, gT_fu, pEq_fu, pNe_fu, pEq_str, pNe_str, pLt_str, pGt_str, pIn_fl, pIn_ft, pNotIn_fl, pNotIn_ft, pIn_sl, pIn_st, pNotIn_sl, pNotIn_st, pIn_s2, pIx_dS, pIn_dS, pNotIn_dS, pSetK_dS, pLen_dS, pIx_dF, pIn_dF, pNotIn_dF, pSetT_dF, pLen_dF, List.length_map, slD_fu, slD_t, slD_l, slD_s, truD_i, truD_b, truD_n, truD_l, truD_t, revDt_l, revDt_t, fuD_eq, itemsS_t, itemsS_l, seqD_l, seqD_t, seqD_s, q_net_without]
  refine ⟨net, cut, rfl, hN.len, ?_⟩
  have hz := hN.len
  have fin : ∀ kept : List Fu, (∀ f ∈ net, f ∉ cut → (f ∈ kept ↔ tm (woF net cut) L f.a = none)) → ∀ o, mLc [5] (aSeq (mV 0)) (gN 5) (tOrM (tBool (m2 (fun {d e} {Qd} => pIn d e Qd) (mV 5) (mV 2))) (tBool (m2 (fun {d e} {Qd} => pIn d e Qd) (mV 5) (mV 4)))) (m2 pIx (mV 5) (mC (.int 2))) [some (netD net), some (lisD L), some (netD cut), some (netD (woF net cut)), some (netD kept), o] (fun d => pSum [d] Q) := by
    intro kept hk o
    refine mLc_filter net fuD (fun f => .int f.c) (fun f => decide (f ∈ cut) || !(tm (woF net cut) L f.a).isSome) (fun R hR => ?_) (by rw [sizeLine_eq]; omega) (fun f hf P N hp hn => ?_) ?_
    · simp only [sCells, sAsg, sSeq, sIf, sSet, sRet, sRetN, sNext, sBoxPut, sPar, setAll, sExprM, mMeth, tyD, tBool, tTru, tAndM, tOrM, tNotM, m1, m2, mN, mV, mC, mCall, mBoxI, aNil, aCons, mIf, mTup, mLst, mLk, hasD, mAndV, mOrV, pNotB, aSeq, itemsS, aRng1, aRng2, aRng3, gN, gsNil, gsCons, gSt, pSetL, pLenB, isD, pSl, pSlL, oNone, oSome, pEq_int, pNe_int, pLt_int, pGt_int, pLe_int, pGe_int, mChain, aEnum, aZip, mCount, List.set_cons_zero, List.set_cons_succ, List.getElem?_cons_zero, List.getElem?_cons_succ, List.length_cons, List.length_nil, if_true, if_false, Bool.false_eq_true, true_and, and_true, decide_eq_true_eq, wipeD, tTrue, List.map_cons, List.map_nil, natD, at20, at21, at30, at31, at32, Option.some.injEq, exists_eq_left', gT_t, pAddE_i, pAddE_s, pAddE_l, pAddE_t, pAdd_i, pAddL_l, pSub_i, pMod_i, pFdiv_i, pNeg_i, pTupOf_l, pListOf_l, pListOf_t, pMin_i, pMax_i, pIs_n, pIs_b, pIsNot_n, pIsNot_b, pInt1_i, pAbs_i, qAppend_l, qExtend_l, qExtend_t, pSum_i, pAny_b, pAll_b, pRev, pRevL, pSl, pIx_t, pIx_l, pLen_map, pLen_mapT, pLen_net, pLen_t, pLen_l, pLen_s, pIn_ss, pNotIn_ss, pIn_s3, pIx_s, pIx_fu0, pIx_fu1, pIx_fu2, pIx_p0, pIx_p1, gT_fu, pEq_fu, pNe_fu, pEq_str, pNe_str, pLt_str, pGt_str, pIn_fl, pIn_ft, pNotIn_fl, pNotIn_ft, pIn_sl, pIn_st, pNotIn_sl, pNotIn_st, pIn_s2, pIx_dS, pIn_dS, pNotIn_dS, pSetK_dS, pLen_dS, pIx_dF, pIn_dF, pNotIn_dF, pSetT_dF, pLen_dF, List.length_map, slD_fu, slD_t, slD_l, slD_s, truD_i, truD_b, truD_n, truD_l, truD_t, revDt_l, revDt_t, fuD_eq, itemsS_t, itemsS_l, seqD_l, seqD_t, seqD_s]; exact fun _ => hR
    · simp only [sCells, sAsg, sSeq, sIf, sSet, sRet, sRetN, sNext, sBoxPut, sPar, setAll, sExprM, mMeth, tyD, tBool, tTru, tAndM, tOrM, tNotM, m1, m2, mN, mV, mC, mCall, mBoxI, aNil, aCons, mIf, mTup, mLst, mLk, hasD, mAndV, mOrV, pNotB, aSeq, itemsS, aRng1, aRng2, aRng3, gN, gsNil, gsCons, gSt, pSetL, pLenB, isD, pSl, pSlL, oNone, oSome, pEq_int, pNe_int, pLt_int, pGt_int, pLe_int, pGe_int, mChain, aEnum, aZip, mCount, List.set_cons_zero, List.set_cons_succ, List.getElem?_cons_zero, List.getElem?_cons_succ, List.length_cons, List.length_nil, if_true, if_false, Bool.false_eq_true, true_and, and_true, decide_eq_true_eq, wipeD, tTrue, List.map_cons, List.map_nil, natD, at20, at21, at30, at31, at32, Option.some.injEq, exists_eq_left', gT_t, pAddE_i, pAddE_s, pAddE_l, pAddE_t, pAdd_i, pAddL_l, pSub_i, pMod_i, pFdiv_i, pNeg_i, pTupOf_l, pListOf_l, pListOf_t, pMin_i, pMax_i, pIs_n, pIs_b, pIsNot_n, pIsNot_b, pInt1_i, pAbs_i, qAppend_l, qExtend_l, qExtend_t, pSum_i, pAny_b, pAll_b, pRev, pRevL, pSl, pIx_t, pIx_l, pLen_map, pLen_mapT, pLen_net, pLen_t, pLen_l, pLen_s, pIn_ss, pNotIn_ss, pIn_s3, pIx_s, pIx_fu0, pIx_fu1, pIx_fu2, pIx_p0, pIx_p1, gT_fu, pEq_fu, pNe_fu, pEq_str, pNe_str, pLt_str, pGt_str, pIn_fl, pIn_ft, pNotIn_fl, pNotIn_ft, pIn_sl, pIn_st, pNotIn_sl, pNotIn_st, pIn_s2, pIx_dS, pIn_dS, pNotIn_dS, pSetK_dS, pLen_dS, pIx_dF, pIn_dF, pNotIn_dF, pSetT_dF, pLen_dF, List.length_map, slD_fu, slD_t, slD_l, slD_s, truD_i, truD_b, truD_n, truD_l, truD_t, revDt_l, revDt_t, fuD_eq, itemsS_t, itemsS_l, seqD_l, seqD_t, seqD_s]
      by_cases c : f ∈ cut
      · rw [if_pos c]; exact hp (by simp [c])
      · rw [if_neg c]
        cases e : tm (woF net cut) L f.a with
        | none => rw [e] at hp; rw [if_pos ((hk f hf c).mpr e)]; exact hp (by simp)
        | some t => rw [e] at hn; rw [if_neg fun z => by rw [(hk f hf c).mp z] at e; cases e]; exact hn (by simp [c])
    · have e : ((net.filter fun f => decide (f ∈ cut) || !(tm (woF net cut) L f.a).isSome).map fun f => PyData.int f.c) = ((net.filter fun f => decide (f ∈ cut) || !(tm (woF net cut) L f.a).isSome).map (·.c)).map .int := by rw [List.map_map]; rfl
      rw [e, pSum_i]; exact h
  have hw : ∀ f ∈ net, f ∉ cut → f ∈ woF net cut := fun f hf c => List.mem_filter.mpr ⟨hf, by simp [c]⟩
  cases e : woF net cut with
  | nil =>
    simp only [List.map_nil, List.isEmpty_nil, Bool.not_true, Bool.false_eq_true, if_false]
    refine ⟨by decide, ?_⟩
    have := fin [] (fun f hf c => by have := hw f hf c; rw [e] at this; cases this) none
    rw [e] at this; exact this
  | cons g gs =>
    simp only [List.map_cons, List.isEmpty_cons, Bool.not_false, if_true, q_unburnt]
    refine ⟨woF net cut, L, by rw [e], hN.filter _, hL, ?_⟩
    have := fin (unbF (woF net cut) L) (fun f hf c => by
      unfold unbF
      rw [List.mem_filter]
      constructor
      · rintro ⟨_, z⟩; simpa using z
      · intro z; exact ⟨hw f hf c, by rw [z]; rfl⟩) none
    rw [e] at this ⊢; exact this
theorem ok_best_cuts {f : Addr} {fd : FuncData} (F : Fun K "best_cuts" "best_cuts" s_best_cuts f fd) (m_range : mg "range" = none) {f_part_rows : Addr} {fd_part_rows : FuncData} (F_part_rows : Fun K "part_rows" "part_rows" s_part_rows f_part_rows fd_part_rows) (g_part_rows : mg "part_rows" = some (.ref f_part_rows)) (b_part_rows : Binds K fd_part_rows ["parts", "many"] []) (G_part_rows : FnOk P w K mg base CX0 1 f_part_rows fd_part_rows ["parts", "many"] (spD K 2 q_part_rows)) {f_saved_length : Addr} {fd_saved_length : FuncData} (F_saved_length : Fun K "saved_length" "saved_length" s_saved_length f_saved_length fd_saved_length) (g_saved_length : mg "saved_length" = some (.ref f_saved_length)) (b_saved_length : Binds K fd_saved_length ["net", "lights", "cut"] []) (G_saved_length : FnOk P w K mg base CX0 4 f_saved_length fd_saved_length ["net", "lights", "cut"] (spD K 3 q_saved_length)) {f_can_be_cut : Addr} {fd_can_be_cut : FuncData} (F_can_be_cut : Fun K "can_be_cut" "can_be_cut" s_can_be_cut f_can_be_cut fd_can_be_cut) (g_can_be_cut : mg "can_be_cut" = some (.ref f_can_be_cut)) (b_can_be_cut : Binds K fd_can_be_cut ["net", "lights", "moment"] []) (G_can_be_cut : FnOk P w K mg base CX0 4 f_can_be_cut fd_can_be_cut ["net", "lights", "moment"] (spD K 3 q_can_be_cut)) : FnOk P w K mg base CX0 5 f fd ["net", "lights", "moment", "many"] (spD K 4 q_best_cuts) := by
  have nd := sc_best_cuts.nd
  refine fnD (φ := q_best_cuts) F sc_best_cuts i_best_cuts rfl rfl (by decide) (fun cdv A outer s H E hr => (dss_cons (w_par2 4 5 nd (dax_e (w_call G_can_be_cut (hr.mono (by omega)) g_can_be_cut F_can_be_cut.kp b_can_be_cut (dae_cons (w_v 0) (dae_cons (w_v 1) (dae_cons (w_v 2) dae_nil)))) (dax_e de_non dax_nil)))
 (dss_cons (ds_for [] (by decide) rfl (di_range1 (by rfl) m_range (dae_cons (de_binE r_addE (w_v 3) de_int) dae_nil)) (dgw (w_gn 6 nd))
 (dss_one (ds_for [] (by decide) rfl (di_seq (dq (w_call G_part_rows (hr.mono (by omega)) g_part_rows F_part_rows.kp b_part_rows (dae_cons (w_v 4) (dae_cons (w_v 6) dae_nil))))) (dgw (w_gn 7 nd))
 (dss_cons (w_set 8 nd (w_call G_saved_length (hr.mono (by omega)) g_saved_length F_saved_length.kp b_saved_length (dae_cons (w_v 0) (dae_cons (w_v 1) (dae_cons (w_v 7) dae_nil)))))
 (dss_one (ds_if (dt_w (dw_or (dt_cmp r_is (w_b 5) (db de_non)) (dw_or1 (dt_cmp (r_gt (hu200 hr)) (w_b 8) (db (de_ix (hu200 hr) (w_b 5) de_int))))))
 (dss_one (w_set 5 nd (de_tup (dae_cons (w_v 8) (dae_cons (w_v 7) dae_nil)))))
 dss_nil))) PassesOwn.never)) PassesOwn.never)
 (dss_one (ds_ret (de_ix (hu200 hr) (w_b 5) de_int)))))) ?_
  rintro ds Q hl ⟨net, L, mom, m, rfl, hN, hL, hn, hm, h⟩
  rw [show startD ["net", "lights", "moment", "many", "free", "best", "size", "cut", "saved"] ([netD net, lisD L, .int mom, .int m].map some) = [some (netD net), some (lisD L), some (.int mom), some (.int m), none, none, none, none, none] from rfl]
  simp only [sCells, sAsg, sSeq, sIf, sSet, sRet, sRetN, sNext, sBoxPut, sPar, setAll, sExprM, mMeth, tyD, tBool, tTru, tAndM, tOrM, tNotM, m1, m2, mN, mV, mC, mCall, mBoxI, aNil, aCons, mIf, mTup, mLst, mLk, hasD, mAndV, mOrV, pNotB, aSeq, itemsS, aRng1, aRng2, aRng3, gN, gsNil, gsCons, gSt, pSetL, pLenB, isD, pSl, pSlL, oNone, oSome, pEq_int, pNe_int, pLt_int, pGt_int, pLe_int, pGe_int, mChain, aEnum, aZip, mCount, List.set_cons_zero, List.set_cons_succ, List.getElem?_cons_zero, List.getElem?_cons_succ, List.length_cons, List.length_nil, if_true, if_false, Bool.false_eq_true, true_and, and_true, decide_eq_true_eq, wipeD, tTrue, List.map_cons, List.map_nil, natD, at20, at21, at30, at31, at32, Option.some.injEq, exists_eq_left', gT_t, pAddE_i, pAddE_s, pAddE_l, pAddE_t, pAdd_i, pAddL_l, pSub_i, pMod_i, pFdiv_i, pNeg_i, pTupOf_l, pListOf_l, pListOf_t, pMin_i, pMax_i, pIs_n, pIs_b, pIsNot_n, pIsNot_b, pInt1_i, pAbs_i, qAppend_l, qExtend_l, qExtend_t, pSum_i, pAny_b, pAll_b, pRev, pRevL, pSl, pIx_t, pIx_l, pLen_map, pLen_mapT, pLen_net, pLen_t, pLen_l, pLen_s, pIn_ss, pNotIn_ss, pIn_s3, pIx_s, pIx_fu0, pIx_fu1, pIx_fu2, pIx_p0, pIx_p1, gT_fu, pEq_fu, pNe_fu, pEq_str, pNe_str, pLt_str, pGt_str, pIn_fl, pIn_ft, pNotIn_fl, pNotIn_ft, pIn_sl, pIn_st, pNotIn_sl, pNotIn_st, pIn_s2, pIx_dS, pIn_dS, pNotIn_dS, pSetK_dS, pLen_dS, pIx_dF, pIn_dF, pNotIn_dF, pSetT_dF, pLen_dF, List.length_map, slD_fu, slD_t, slD_l, slD_s, truD_i, truD_b, truD_n, truD_l, truD_t, revDt_l, revDt_t, fuD_eq, itemsS_t, itemsS_l, seqD_l, seqD_t, seqD_s, q_can_be_cut]
  refine ⟨net, L, mom, rfl, hN, hL, ?_⟩
  have hfl : (freeF net L mom).length ≤ 20 := Nat.le_trans (List.length_filter_le _ _) hn
  refine sFor_rng 0 (m + 1) (fun i ρ => ∃ o1 o2 o3, ρ = [some (netD net), some (lisD L), some (.int mom), some (.int m), some (netD (freeF net L mom)), some (bestD (((List.range i).flatMap (comb (freeF net L mom))).foldl (bestStep (sav net L)) none)), o1, o2, o3]) (fun R hR => ?_) ⟨_, _, _, rfl⟩ ?_ ?_
  · simp only [sCells, sAsg, sSeq, sIf, sSet, sRet, sRetN, sNext, sBoxPut, sPar, setAll, sExprM, mMeth, tyD, tBool, tTru, tAndM, tOrM, tNotM, m1, m2, mN, mV, mC, mCall, mBoxI, aNil, aCons, mIf, mTup, mLst, mLk, hasD, mAndV, mOrV, pNotB, aSeq, itemsS, aRng1, aRng2, aRng3, gN, gsNil, gsCons, gSt, pSetL, pLenB, isD, pSl, pSlL, oNone, oSome, pEq_int, pNe_int, pLt_int, pGt_int, pLe_int, pGe_int, mChain, aEnum, aZip, mCount, List.set_cons_zero, List.set_cons_succ, List.getElem?_cons_zero, List.getElem?_cons_succ, List.length_cons, List.length_nil, if_true, if_false, Bool.false_eq_true, true_and, and_true, decide_eq_true_eq, wipeD, tTrue, List.map_cons, List.map_nil, natD, at20, at21, at30, at31, at32, Option.some.injEq, exists_eq_left', gT_t, pAddE_i, pAddE_s, pAddE_l, pAddE_t, pAdd_i, pAddL_l, pSub_i, pMod_i, pFdiv_i, pNeg_i, pTupOf_l, pListOf_l, pListOf_t, pMin_i, pMax_i, pIs_n, pIs_b, pIsNot_n, pIsNot_b, pInt1_i, pAbs_i, qAppend_l, qExtend_l, qExtend_t, pSum_i, pAny_b, pAll_b, pRev, pRevL, pSl, pIx_t, pIx_l, pLen_map, pLen_mapT, pLen_net, pLen_t, pLen_l, pLen_s, pIn_ss, pNotIn_ss, pIn_s3, pIx_s, pIx_fu0, pIx_fu1, pIx_fu2, pIx_p0, pIx_p1, gT_fu, pEq_fu, pNe_fu, pEq_str, pNe_str, pLt_str, pGt_str, pIn_fl, pIn_ft, pNotIn_fl, pNotIn_ft, pIn_sl, pIn_st, pNotIn_sl, pNotIn_st, pIn_s2, pIx_dS, pIn_dS, pNotIn_dS, pSetK_dS, pLen_dS, pIx_dF, pIn_dF, pNotIn_dF, pSetT_dF, pLen_dF, List.length_map, slD_fu, slD_t, slD_l, slD_s, truD_i, truD_b, truD_n, truD_l, truD_t, revDt_l, revDt_t, fuD_eq, itemsS_t, itemsS_l, seqD_l, seqD_t, seqD_s]; exact ⟨rngOk_of (by omega) (by omega), hR⟩
  · rintro i _ hi ⟨o1, o2, o3, rfl⟩
    simp only [sCells, sAsg, sSeq, sIf, sSet, sRet, sRetN, sNext, sBoxPut, sPar, setAll, sExprM, mMeth, tyD, tBool, tTru, tAndM, tOrM, tNotM, m1, m2, mN, mV, mC, mCall, mBoxI, aNil, aCons, mIf, mTup, mLst, mLk, hasD, mAndV, mOrV, pNotB, aSeq, itemsS, aRng1, aRng2, aRng3, gN, gsNil, gsCons, gSt, pSetL, pLenB, isD, pSl, pSlL, oNone, oSome, pEq_int, pNe_int, pLt_int, pGt_int, pLe_int, pGe_int, mChain, aEnum, aZip, mCount, List.set_cons_zero, List.set_cons_succ, List.getElem?_cons_zero, List.getElem?_cons_succ, List.length_cons, List.length_nil, if_true, if_false, Bool.false_eq_true, true_and, and_true, decide_eq_true_eq, wipeD, tTrue, List.map_cons, List.map_nil, natD, at20, at21, at30, at31, at32, Option.some.injEq, exists_eq_left', gT_t, pAddE_i, pAddE_s, pAddE_l, pAddE_t, pAdd_i, pAddL_l, pSub_i, pMod_i, pFdiv_i, pNeg_i, pTupOf_l, pListOf_l, pListOf_t, pMin_i, pMax_i, pIs_n, pIs_b, pIsNot_n, pIsNot_b, pInt1_i, pAbs_i, qAppend_l, qExtend_l, qExtend_t, pSum_i, pAny_b, pAll_b, pRev, pRevL, pSl, pIx_t, pIx_l, pLen_map, pLen_mapT, pLen_net, pLen_t, pLen_l, pLen_s, pIn_ss, pNotIn_ss, pIn_s3, pIx_s, pIx_fu0, pIx_fu1, pIx_fu2, pIx_p0, pIx_p1, gT_fu, pEq_fu, pNe_fu, pEq_str, pNe_str, pLt_str, pGt_str, pIn_fl, pIn_ft, pNotIn_fl, pNotIn_ft, pIn_sl, pIn_st, pNotIn_sl, pNotIn_st, pIn_s2, pIx_dS, pIn_dS, pNotIn_dS, pSetK_dS, pLen_dS, pIx_dF, pIn_dF, pNotIn_dF, pSetT_dF, pLen_dF, List.length_map, slD_fu, slD_t, slD_l, slD_s, truD_i, truD_b, truD_n, truD_l, truD_t, revDt_l, revDt_t, fuD_eq, itemsS_t, itemsS_l, seqD_l, seqD_t, seqD_s]
    have hz : (comb (freeF net L mom) i).length ≤ 1048576 := by unfold comb; rw [List.length_map]; exact Nat.le_trans (prow_len _ i) (by have := Nat.pow_le_pow_right (n := 2) (by decide) hfl; simpa using this)
    rw [show (0 + (i : Int)) = (i : Int) by omega]
    refine sFor_go (comb (freeF net L mom) i) netD (fun j ρ => ∃ o2 o3, ρ = [some (netD net), some (lisD L), some (.int mom), some (.int m), some (netD (freeF net L mom)), some (bestD (((List.range i).flatMap (comb (freeF net L mom)) ++ (comb (freeF net L mom) i).take j).foldl (bestStep (sav net L)) none)), some (.int i), o2, o3]) (fun R hR => ?_) ⟨o2, o3, by rw [List.take_zero, List.append_nil]⟩ ?_ ?_
    · simp only [sCells, sAsg, sSeq, sIf, sSet, sRet, sRetN, sNext, sBoxPut, sPar, setAll, sExprM, mMeth, tyD, tBool, tTru, tAndM, tOrM, tNotM, m1, m2, mN, mV, mC, mCall, mBoxI, aNil, aCons, mIf, mTup, mLst, mLk, hasD, mAndV, mOrV, pNotB, aSeq, itemsS, aRng1, aRng2, aRng3, gN, gsNil, gsCons, gSt, pSetL, pLenB, isD, pSl, pSlL, oNone, oSome, pEq_int, pNe_int, pLt_int, pGt_int, pLe_int, pGe_int, mChain, aEnum, aZip, mCount, List.set_cons_zero, List.set_cons_succ, List.getElem?_cons_zero, List.getElem?_cons_succ, List.length_cons, List.length_nil, if_true, if_false, Bool.false_eq_true, true_and, and_true, decide_eq_true_eq, wipeD, tTrue, List.map_cons, List.map_nil, natD, at20, at21, at30, at31, at32, Option.some.injEq, exists_eq_left', gT_t, pAddE_i, pAddE_s, pAddE_l, pAddE_t, pAdd_i, pAddL_l, pSub_i, pMod_i, pFdiv_i, pNeg_i, pTupOf_l, pListOf_l, pListOf_t, pMin_i, pMax_i, pIs_n, pIs_b, pIsNot_n, pIsNot_b, pInt1_i, pAbs_i, qAppend_l, qExtend_l, qExtend_t, pSum_i, pAny_b, pAll_b, pRev, pRevL, pSl, pIx_t, pIx_l, pLen_map, pLen_mapT, pLen_net, pLen_t, pLen_l, pLen_s, pIn_ss, pNotIn_ss, pIn_s3, pIx_s, pIx_fu0, pIx_fu1, pIx_fu2, pIx_p0, pIx_p1, gT_fu, pEq_fu, pNe_fu, pEq_str, pNe_str, pLt_str, pGt_str, pIn_fl, pIn_ft, pNotIn_fl, pNotIn_ft, pIn_sl, pIn_st, pNotIn_sl, pNotIn_st, pIn_s2, pIx_dS, pIn_dS, pNotIn_dS, pSetK_dS, pLen_dS, pIx_dF, pIn_dF, pNotIn_dF, pSetT_dF, pLen_dF, List.length_map, slD_fu, slD_t, slD_l, slD_s, truD_i, truD_b, truD_n, truD_l, truD_t, revDt_l, revDt_t, fuD_eq, itemsS_t, itemsS_l, seqD_l, seqD_t, seqD_s, q_part_rows]; exact ⟨_, i, rfl, hfl, by omega, fun _ => hR⟩
    · rintro j cut _ hcut ⟨o2, o3, rfl⟩
      simp only [sCells, sAsg, sSeq, sIf, sSet, sRet, sRetN, sNext, sBoxPut, sPar, setAll, sExprM, mMeth, tyD, tBool, tTru, tAndM, tOrM, tNotM, m1, m2, mN, mV, mC, mCall, mBoxI, aNil, aCons, mIf, mTup, mLst, mLk, hasD, mAndV, mOrV, pNotB, aSeq, itemsS, aRng1, aRng2, aRng3, gN, gsNil, gsCons, gSt, pSetL, pLenB, isD, pSl, pSlL, oNone, oSome, pEq_int, pNe_int, pLt_int, pGt_int, pLe_int, pGe_int, mChain, aEnum, aZip, mCount, List.set_cons_zero, List.set_cons_succ, List.getElem?_cons_zero, List.getElem?_cons_succ, List.length_cons, List.length_nil, if_true, if_false, Bool.false_eq_true, true_and, and_true, decide_eq_true_eq, wipeD, tTrue, List.map_cons, List.map_nil, natD, at20, at21, at30, at31, at32, Option.some.injEq, exists_eq_left', gT_t, pAddE_i, pAddE_s, pAddE_l, pAddE_t, pAdd_i, pAddL_l, pSub_i, pMod_i, pFdiv_i, pNeg_i, pTupOf_l, pListOf_l, pListOf_t, pMin_i, pMax_i, pIs_n, pIs_b, pIsNot_n, pIsNot_b, pInt1_i, pAbs_i, qAppend_l, qExtend_l, qExtend_t, pSum_i, pAny_b, pAll_b, pRev, pRevL, pSl, pIx_t, pIx_l, pLen_map, pLen_mapT, pLen_net, pLen_t, pLen_l, pLen_s, pIn_ss, pNotIn_ss, pIn_s3, pIx_s, pIx_fu0, pIx_fu1, pIx_fu2, pIx_p0, pIx_p1, gT_fu, pEq_fu, pNe_fu, pEq_str, pNe_str, pLt_str, pGt_str, pIn_fl, pIn_ft, pNotIn_fl, pNotIn_ft, pIn_sl, pIn_st, pNotIn_sl, pNotIn_st, pIn_s2, pIx_dS, pIn_dS, pNotIn_dS, pSetK_dS, pLen_dS, pIx_dF, pIn_dF, pNotIn_dF, pSetT_dF, pLen_dF, List.length_map, slD_fu, slD_t, slD_l, slD_s, truD_i, truD_b, truD_n, truD_l, truD_t, revDt_l, revDt_t, fuD_eq, itemsS_t, itemsS_l, seqD_l, seqD_t, seqD_s, q_saved_length]
      refine ⟨net, L, cut, rfl, hN, hL, ?_⟩
      rw [List.take_add_one, hcut]
      simp only [Option.toList_some]
      rw [show ((List.range i).flatMap (comb (freeF net L mom)) ++ ((comb (freeF net L mom) i).take j ++ [cut])).foldl (bestStep (sav net L)) none = bestStep (sav net L) (((List.range i).flatMap (comb (freeF net L mom)) ++ (comb (freeF net L mom) i).take j).foldl (bestStep (sav net L)) none) cut by rw [← List.append_assoc, List.foldl_append]; rfl]
      generalize ((List.range i).flatMap (comb (freeF net L mom)) ++ (comb (freeF net L mom) i).take j).foldl (bestStep (sav net L)) none = b
      cases b with
      | none =>
        simp only [sCells, sAsg, sSeq, sIf, sSet, sRet, sRetN, sNext, sBoxPut, sPar, setAll, sExprM, mMeth, tyD, tBool, tTru, tAndM, tOrM, tNotM, m1, m2, mN, mV, mC, mCall, mBoxI, aNil, aCons, mIf, mTup, mLst, mLk, hasD, mAndV, mOrV, pNotB, aSeq, itemsS, aRng1, aRng2, aRng3, gN, gsNil, gsCons, gSt, pSetL, pLenB, isD, pSl, pSlL, oNone, oSome, pEq_int, pNe_int, pLt_int, pGt_int, pLe_int, pGe_int, mChain, aEnum, aZip, mCount, List.set_cons_zero, List.set_cons_succ, List.getElem?_cons_zero, List.getElem?_cons_succ, List.length_cons, List.length_nil, if_true, if_false, Bool.false_eq_true, true_and, and_true, decide_eq_true_eq, wipeD, tTrue, List.map_cons, List.map_nil, natD, at20, at21, at30, at31, at32, Option.some.injEq, exists_eq_left', gT_t, pAddE_i, pAddE_s, pAddE_l, pAddE_t, pAdd_i, pAddL_l, pSub_i, pMod_i, pFdiv_i, pNeg_i, pTupOf_l, pListOf_l, pListOf_t, pMin_i, pMax_i, pIs_n, pIs_b, pIsNot_n, pIsNot_b, pInt1_i, pAbs_i, qAppend_l, qExtend_l, qExtend_t, pSum_i, pAny_b, pAll_b, pRev, pRevL, pSl, pIx_t, pIx_l, pLen_map, pLen_mapT, pLen_net, pLen_t, pLen_l, pLen_s, pIn_ss, pNotIn_ss, pIn_s3, pIx_s, pIx_fu0, pIx_fu1, pIx_fu2, pIx_p0, pIx_p1, gT_fu, pEq_fu, pNe_fu, pEq_str, pNe_str, pLt_str, pGt_str, pIn_fl, pIn_ft, pNotIn_fl, pNotIn_ft, pIn_sl, pIn_st, pNotIn_sl, pNotIn_st, pIn_s2, pIx_dS, pIn_dS, pNotIn_dS, pSetK_dS, pLen_dS, pIx_dF, pIn_dF, pNotIn_dF, pSetT_dF, pLen_dF, List.length_map, slD_fu, slD_t, slD_l, slD_s, truD_i, truD_b, truD_n, truD_l, truD_t, revDt_l, revDt_t, fuD_eq, itemsS_t, itemsS_l, seqD_l, seqD_t, seqD_s, bestD]
        exact ⟨by decide, _, _, rfl⟩
      | some b =>
        obtain ⟨s, c⟩ := b
        simp only [sCells, sAsg, sSeq, sIf, sSet, sRet, sRetN, sNext, sBoxPut, sPar, setAll, sExprM, mMeth, tyD, tBool, tTru, tAndM, tOrM, tNotM, m1, m2, mN, mV, mC, mCall, mBoxI, aNil, aCons, mIf, mTup, mLst, mLk, hasD, mAndV, mOrV, pNotB, aSeq, itemsS, aRng1, aRng2, aRng3, gN, gsNil, gsCons, gSt, pSetL, pLenB, isD, pSl, pSlL, oNone, oSome, pEq_int, pNe_int, pLt_int, pGt_int, pLe_int, pGe_int, mChain, aEnum, aZip, mCount, List.set_cons_zero, List.set_cons_succ, List.getElem?_cons_zero, List.getElem?_cons_succ, List.length_cons, List.length_nil, if_true, if_false, Bool.false_eq_true, true_and, and_true, decide_eq_true_eq, wipeD, tTrue, List.map_cons, List.map_nil, natD, at20, at21, at30, at31, at32, Option.some.injEq, exists_eq_left', gT_t, pAddE_i, pAddE_s, pAddE_l, pAddE_t, pAdd_i, pAddL_l, pSub_i, pMod_i, pFdiv_i, pNeg_i, pTupOf_l, pListOf_l, pListOf_t, pMin_i, pMax_i, pIs_n, pIs_b, pIsNot_n, pIsNot_b, pInt1_i, pAbs_i, qAppend_l, qExtend_l, qExtend_t, pSum_i, pAny_b, pAll_b, pRev, pRevL, pSl, pIx_t, pIx_l, pLen_map, pLen_mapT, pLen_net, pLen_t, pLen_l, pLen_s, pIn_ss, pNotIn_ss, pIn_s3, pIx_s, pIx_fu0, pIx_fu1, pIx_fu2, pIx_p0, pIx_p1, gT_fu, pEq_fu, pNe_fu, pEq_str, pNe_str, pLt_str, pGt_str, pIn_fl, pIn_ft, pNotIn_fl, pNotIn_ft, pIn_sl, pIn_st, pNotIn_sl, pNotIn_st, pIn_s2, pIx_dS, pIn_dS, pNotIn_dS, pSetK_dS, pLen_dS, pIx_dF, pIn_dF, pNotIn_dF, pSetT_dF, pLen_dF, List.length_map, slD_fu, slD_t, slD_l, slD_s, truD_i, truD_b, truD_n, truD_l, truD_t, revDt_l, revDt_t, fuD_eq, itemsS_t, itemsS_l, seqD_l, seqD_t, seqD_s, bestD]
        by_cases q : s < sav net L cut
        · simp only [q, if_true]
          exact ⟨by decide, some (netD cut), some (.int (sav net L cut)), by simp [bestStep, q]⟩
        · simp only [q, if_false]
          exact ⟨some (netD cut), some (.int (sav net L cut)), by simp [bestStep, q]⟩
    · rintro _ ⟨o2, o3, rfl⟩
      refine ⟨some (.int i), o2, o3, ?_⟩
      rw [List.take_length, List.range_succ, List.flatMap_append, List.flatMap_singleton]
  · rintro _ ⟨o1, o2, o3, rfl⟩
    rw [show ((m : Int) + 1 - 0).toNat = m + 1 by omega]
    obtain ⟨z, h1, _⟩ := bestOf_is (sav net L) (allC_ne (freeF net L mom) m)
    have h2 := h _ _ h1
    unfold bestOf allC at h1
    rw [h1]
    simp only [sCells, sAsg, sSeq, sIf, sSet, sRet, sRetN, sNext, sBoxPut, sPar, setAll, sExprM, mMeth, tyD, tBool, tTru, tAndM, tOrM, tNotM, m1, m2, mN, mV, mC, mCall, mBoxI, aNil, aCons, mIf, mTup, mLst, mLk, hasD, mAndV, mOrV, pNotB, aSeq, itemsS, aRng1, aRng2, aRng3, gN, gsNil, gsCons, gSt, pSetL, pLenB, isD, pSl, pSlL, oNone, oSome, pEq_int, pNe_int, pLt_int, pGt_int, pLe_int, pGe_int, mChain, aEnum, aZip, mCount, List.set_cons_zero, List.set_cons_succ, List.getElem?_cons_zero, List.getElem?_cons_succ, List.length_cons, List.length_nil, if_true, if_false, Bool.false_eq_true, true_and, and_true, decide_eq_true_eq, wipeD, tTrue, List.map_cons, List.map_nil, natD, at20, at21, at30, at31, at32, Option.some.injEq, exists_eq_left', gT_t, pAddE_i, pAddE_s, pAddE_l, pAddE_t, pAdd_i, pAddL_l, pSub_i, pMod_i, pFdiv_i, pNeg_i, pTupOf_l, pListOf_l, pListOf_t, pMin_i, pMax_i, pIs_n, pIs_b, pIsNot_n, pIsNot_b, pInt1_i, pAbs_i, qAppend_l, qExtend_l, qExtend_t, pSum_i, pAny_b, pAll_b, pRev, pRevL, pSl, pIx_t, pIx_l, pLen_map, pLen_mapT, pLen_net, pLen_t, pLen_l, pLen_s, pIn_ss, pNotIn_ss, pIn_s3, pIx_s, pIx_fu0, pIx_fu1, pIx_fu2, pIx_p0, pIx_p1, gT_fu, pEq_fu, pNe_fu, pEq_str, pNe_str, pLt_str, pGt_str, pIn_fl, pIn_ft, pNotIn_fl, pNotIn_ft, pIn_sl, pIn_st, pNotIn_sl, pNotIn_st, pIn_s2, pIx_dS, pIn_dS, pNotIn_dS, pSetK_dS, pLen_dS, pIx_dF, pIn_dF, pNotIn_dF, pSetT_dF, pLen_dF, List.length_map, slD_fu, slD_t, slD_l, slD_s, truD_i, truD_b, truD_n, truD_l, truD_t, revDt_l, revDt_t, fuD_eq, itemsS_t, itemsS_l, seqD_l, seqD_t, seqD_s, bestD]
    exact h2
theorem step__law_same {k n : Nat} {f : Addr} {fd : FuncData} (F : Fun K "_law_same" "_law_same" s__law_same f fd) (m_all : mg "all" = none) (m_bool : mg "bool" = none) (m_int : mg "int" = none) (m_isinstance : mg "isinstance" = none) (m_len : mg "len" = none) (m_list : mg "list" = none) (m_range : mg "range" = none) (m_str : mg "str" = none) (m_tuple : mg "tuple" = none) {f__law_same : Addr} {fd__law_same : FuncData} (F__law_same : Fun K "_law_same" "_law_same" s__law_same f__law_same fd__law_same) (g__law_same : mg "_law_same" = some (.ref f__law_same)) (b__law_same : Binds K fd__law_same ["a", "b"] []) (G__law_same : FnOk P w K mg base CX0 (k + 0) f__law_same fd__law_same ["a", "b"] (spD K 2 (fSame n))) : FnOk P w K mg base CX0 (k + 1) f fd ["a", "b"] (spD K 2 (fSame (n + 1))) := by
  have nd := sc__law_same.nd
  refine fnD (φ := fSame (n + 1)) F sc__law_same i__law_same rfl rfl (by decide) (fun cdv A outer s H E hr => (dss_cons (ds_if (dt_w (dw_or (dt_w (dw_and (dt_tru (db (de_isa (N := "tuple") (by decide) (w_b 0) (by rfl) m_isinstance (by rfl) m_tuple boot_tuple))) (dw_and1 (dt_tru (db (de_isa (N := "tuple") (by decide) (w_b 1) (by rfl) m_isinstance (by rfl) m_tuple boot_tuple)))))) (dw_or1 (dt_w (dw_and (dt_tru (db (de_isa (N := "list") (by decide) (w_b 0) (by rfl) m_isinstance (by rfl) m_list boot_list))) (dw_and1 (dt_tru (db (de_isa (N := "list") (by decide) (w_b 1) (by rfl) m_isinstance (by rfl) m_list boot_list)))))))))
 (dss_one (ds_ret (de_and (de_cmp (r_eq (hu200 hr)) (db (de_bi r_lenB (by rfl) m_len boot_len (dab_cons (w_b 0) dab_nil))) (db (de_bi r_lenB (by rfl) m_len boot_len (dab_cons (w_b 1) dab_nil)))) (de_one (de_bi (r_all rfl) (by rfl) m_all boot_all (dab_cons (db (de (df_lc [("k", 2)] [] ⟨by decide, by decide, by decide, by decide⟩ (by decide) rfl nd (di_range1 (by rfl) m_range (dae_cons (de_bi r_lenB (by rfl) m_len boot_len (dab_cons (w_b 0) dab_nil)) dae_nil)) (blkOk_by (by kernel_rfl)) (fun _ _ _ _ _ => (w_gn 2 nd)) (fun _ _ _ _ _ => dts_nil) (fun _ _ _ _ _ => (w_call G__law_same (hr.mono (by omega)) g__law_same F__law_same.kp b__law_same (dae_cons (de_ix (hu200 hr) (w_b 0) (w_v 2)) (dae_cons (de_ix (hu200 hr) (w_b 1) (w_v 2)) dae_nil))))))) dab_nil))))))
 dss_nil)
 (dss_cons (ds_if (dt_w (dw_or (dt_tru (db (de_isa (N := "bool") (by decide) (w_b 0) (by rfl) m_isinstance (by rfl) m_bool boot_bool))) (dw_or1 (dt_tru (db (de_isa (N := "bool") (by decide) (w_b 1) (by rfl) m_isinstance (by rfl) m_bool boot_bool))))))
 (dss_one (ds_ret (de_and (de_isa (N := "bool") (by decide) (w_b 0) (by rfl) m_isinstance (by rfl) m_bool boot_bool) (de_and (de_isa (N := "bool") (by decide) (w_b 1) (by rfl) m_isinstance (by rfl) m_bool boot_bool) (de_one (de_cmp (r_eq (hu200 hr)) (w_b 0) (w_b 1)))))))
 dss_nil)
 (dss_cons (ds_if (dt_w (dw_or (dt_w (dw_and (dt_tru (db (de_isa (N := "int") (by decide) (w_b 0) (by rfl) m_isinstance (by rfl) m_int boot_int))) (dw_and1 (dt_tru (db (de_isa (N := "int") (by decide) (w_b 1) (by rfl) m_isinstance (by rfl) m_int boot_int)))))) (dw_or1 (dt_w (dw_and (dt_tru (db (de_isa (N := "str") (by decide) (w_b 0) (by rfl) m_isinstance (by rfl) m_str boot_str))) (dw_and1 (dt_tru (db (de_isa (N := "str") (by decide) (w_b 1) (by rfl) m_isinstance (by rfl) m_str boot_str)))))))))
 (dss_one (ds_ret (de_cmp (r_eq (hu200 hr)) (w_b 0) (w_b 1))))
 dss_nil)
 (dss_one (ds_ret (de_and (de_cmp r_is (w_b 0) (db de_non)) (de_one (de_cmp r_is (w_b 1) (db de_non)))))))))) ?_
  rintro ds Q hl ⟨x, y, rfl, px, py, dx, dy, h⟩
  rw [show startD ["a", "b", "k"] ([x, y].map some) = [some (x), some (y), none] from rfl]
  have lt : ∀ {xs : List D}, (PyData.tuple xs).depth ≤ n → PyData.depthAll xs + 1 ≤ n := fun {xs} h => by simpa [PyData.depth] using h
  have ll : ∀ {xs : List D}, (PyData.list xs).depth ≤ n → PyData.depthAll xs + 1 ≤ n := fun {xs} h => by simpa [PyData.depth] using h
  have seq : ∀ (a b : D) (xs ys : List D), ((a = .tuple xs ∧ b = .tuple ys) ∨ (a = .list xs ∧ b = .list ys)) → PyData.plainAll xs = true → PyData.plainAll ys = true → PyData.depthAll xs + 1 ≤ n → PyData.depthAll ys + 1 ≤ n → xs.length ≤ 16777216 → xs.length = ys.length → ∀ R : D → Prop, R (.list ((List.range xs.length).map fun k => .bool (sameD (xs.getD k .none) (ys.getD k .none)))) →
      mLc [2] (aRng1 (aCons (mN pLenB (aCons (mV 0) aNil)) aNil)) (gN 2) tTrue (mCall 2 (fSame n) (aCons (m2 pIx (mV 0) (mV 2)) (aCons (m2 pIx (mV 1) (mV 2)) aNil))) [some a, some b, none] R := by
    intro a b xs ys hab pxs pys dxs dys hz he R hR
    refine mLc_rngm 0 (xs.length : Int) (fun k => .bool (sameD (xs.getD k .none) (ys.getD k .none))) (fun S hS => ?_) (by omega) (fun k hk P N hp => ?_) (by rw [Int.sub_zero, Int.toNat_natCast]; exact hR)
    · rcases hab with ⟨rfl, rfl⟩ | ⟨rfl, rfl⟩ <;> (simp only [sCells, sAsg, sSeq, sIf, sSet, sRet, sRetN, sNext, sBoxPut, sPar, setAll, sExprM, mMeth, tyD, tBool, tTru, tAndM, tOrM, tNotM, m1, m2, mN, mV, mC, mCall, mBoxI, aNil, aCons, mIf, mTup, mLst, mLk, hasD, mAndV, mOrV, pNotB, pNeg, aSeq, seqD, itemsS, aRng1, aRng2, aRng3, gN, gT, gsNil, gsCons, gSt, pSetL, pSetK, pSetT, qAppend, pAddE, pAdd, pSub, pInt1, pMod, pFdiv, pIx, pLen, pLenB, pAny, pAll, pTupOf, pListOf, pIs, pIsNot, isD, pSl, pSlL, oNone, oSome, pEq_int, pNe_int, pLt_int, pGt_int, pLe_int, pGe_int, mChain, pRev, pRevL, aEnum, aZip, pUpper, mCount, List.set_cons_zero, List.set_cons_succ, List.getElem?_cons_zero, List.getElem?_cons_succ, List.length_cons, List.length_nil, if_true, if_false, Bool.false_eq_true, true_and, and_true, decide_eq_true_eq, wipeD, tTrue, List.map_cons, List.map_nil, natD, at20, at21, at30, at31, at32, Option.some.injEq, exists_eq_left']; exact fun _ => ⟨rngOk_of (by omega) (by omega), hS⟩)
    · obtain ⟨x, y, hx, hy, p1, p2, d1, d2, e1, e2⟩ := same_seq (Q := P) pxs pys dxs dys he k (by omega)
      obtain ⟨n, rfl⟩ : ∃ j, n = j + 1 := ⟨n - 1, by omega⟩
      rcases hab with ⟨rfl, rfl⟩ | ⟨rfl, rfl⟩
      all_goals
        simp only [sCells, sAsg, sSeq, sIf, sSet, sRet, sRetN, sNext, sBoxPut, sPar, setAll, sExprM, mMeth, tyD, tBool, tTru, tAndM, tOrM, tNotM, m1, m2, mN, mV, mC, mCall, mBoxI, aNil, aCons, mIf, mTup, mLst, mLk, hasD, mAndV, mOrV, pNotB, pNeg, aSeq, seqD, itemsS, aRng1, aRng2, aRng3, gN, gT, gsNil, gsCons, gSt, pSetL, pSetK, pSetT, qAppend, pAddE, pAdd, pSub, pInt1, pMod, pFdiv, pIx, pLen, pLenB, pAny, pAll, pTupOf, pListOf, pIs, pIsNot, isD, pSl, pSlL, oNone, oSome, pEq_int, pNe_int, pLt_int, pGt_int, pLe_int, pGe_int, mChain, pRev, pRevL, aEnum, aZip, pUpper, mCount, List.set_cons_zero, List.set_cons_succ, List.getElem?_cons_zero, List.getElem?_cons_succ, List.length_cons, List.length_nil, if_true, if_false, Bool.false_eq_true, true_and, and_true, decide_eq_true_eq, wipeD, tTrue, List.map_cons, List.map_nil, natD, at20, at21, at30, at31, at32, Option.some.injEq, exists_eq_left']
        rw [Int.zero_add]
        refine ⟨x, by rw [atD_nat (by omega)]; exact hx, y, by rw [atD_nat (by omega)]; exact hy, x, y, rfl, p1, p2, d1, d2, ?_⟩
        rw [e1, e2]; exact hp
  have fin : ∀ (xs ys : List D), xs.length = ys.length → ((List.range xs.length).map fun k => sameD (xs.getD k .none) (ys.getD k .none)).all id = PyD.sameAll xs ys := fun xs ys h => by
    rw [sameAll_at xs ys h, List.all_map]; rfl
  cases x with
  | dict => cases px
  | tuple xs =>
    cases y with
    | dict => cases py
    | tuple ys =>
      simp only [sCells, sAsg, sSeq, sIf, sSet, sRet, sRetN, sNext, sBoxPut, sPar, setAll, sExprM, mMeth, tyD, tBool, tTru, tAndM, tOrM, tNotM, m1, m2, mN, mV, mC, mCall, mBoxI, aNil, aCons, mIf, mTup, mLst, mLk, hasD, mAndV, mOrV, pNotB, pNeg, aSeq, seqD, itemsS, aRng1, aRng2, aRng3, gN, gT, gsNil, gsCons, gSt, pSetL, pSetK, pSetT, qAppend, pAddE, pAdd, pSub, pInt1, pMod, pFdiv, pIx, pLen, pLenB, pAny, pAll, pTupOf, pListOf, pIs, pIsNot, isD, pSl, pSlL, oNone, oSome, pEq_int, pNe_int, pLt_int, pGt_int, pLe_int, pGe_int, mChain, pRev, pRevL, aEnum, aZip, pUpper, mCount, List.set_cons_zero, List.set_cons_succ, List.getElem?_cons_zero, List.getElem?_cons_succ, List.length_cons, List.length_nil, if_true, if_false, Bool.false_eq_true, true_and, and_true, decide_eq_true_eq, wipeD, tTrue, List.map_cons, List.map_nil, natD, at20, at21, at30, at31, at32, Option.some.injEq, exists_eq_left', pIsa, tyN, isa_NoneType_tuple, isa_NoneType_list, isa_NoneType_bool, isa_NoneType_int, isa_NoneType_str, isa_NoneType_dict, isa_bool_tuple, isa_bool_list, isa_bool_bool, isa_bool_int, isa_bool_str, isa_bool_dict, isa_int_tuple, isa_int_list, isa_int_bool, isa_int_int, isa_int_str, isa_int_dict, isa_str_tuple, isa_str_list, isa_str_bool, isa_str_int, isa_str_str, isa_str_dict, isa_list_tuple, isa_list_list, isa_list_bool, isa_list_int, isa_list_str, isa_list_dict, isa_tuple_tuple, isa_tuple_list, isa_tuple_bool, isa_tuple_int, isa_tuple_str, isa_tuple_dict, isa_dict_tuple, isa_dict_list, isa_dict_bool, isa_dict_int, isa_dict_str, isa_dict_dict]
      intro z1 z2
      by_cases he : xs.length = ys.length
      · rw [if_pos (by omega)]
        refine seq _ _ xs ys (.inl ⟨rfl, rfl⟩) (by simpa [PyData.plain] using px) (by simpa [PyData.plain] using py) (lt dx) (lt dy) z1 he _ ?_
        refine ⟨(List.range xs.length).map fun k => sameD (xs.getD k .none) (ys.getD k .none), by rw [List.map_map]; rfl, ?_⟩
        rw [fin xs ys he]
        unfold sameD at h
        rw [decide_eq_true he] at h; exact h
      · rw [if_neg (by omega)]
        unfold sameD at h
        rw [decide_eq_false he] at h; exact h
    | _ =>
      simp only [sCells, sAsg, sSeq, sIf, sSet, sRet, sRetN, sNext, sBoxPut, sPar, setAll, sExprM, mMeth, tyD, tBool, tTru, tAndM, tOrM, tNotM, m1, m2, mN, mV, mC, mCall, mBoxI, aNil, aCons, mIf, mTup, mLst, mLk, hasD, mAndV, mOrV, pNotB, pNeg, aSeq, seqD, itemsS, aRng1, aRng2, aRng3, gN, gT, gsNil, gsCons, gSt, pSetL, pSetK, pSetT, qAppend, pAddE, pAdd, pSub, pInt1, pMod, pFdiv, pIx, pLen, pLenB, pAny, pAll, pTupOf, pListOf, pIs, pIsNot, isD, pSl, pSlL, oNone, oSome, pEq_int, pNe_int, pLt_int, pGt_int, pLe_int, pGe_int, mChain, pRev, pRevL, aEnum, aZip, pUpper, mCount, List.set_cons_zero, List.set_cons_succ, List.getElem?_cons_zero, List.getElem?_cons_succ, List.length_cons, List.length_nil, if_true, if_false, Bool.false_eq_true, true_and, and_true, decide_eq_true_eq, wipeD, tTrue, List.map_cons, List.map_nil, natD, at20, at21, at30, at31, at32, Option.some.injEq, exists_eq_left', pIsa, tyN, isa_NoneType_tuple, isa_NoneType_list, isa_NoneType_bool, isa_NoneType_int, isa_NoneType_str, isa_NoneType_dict, isa_bool_tuple, isa_bool_list, isa_bool_bool, isa_bool_int, isa_bool_str, isa_bool_dict, isa_int_tuple, isa_int_list, isa_int_bool, isa_int_int, isa_int_str, isa_int_dict, isa_str_tuple, isa_str_list, isa_str_bool, isa_str_int, isa_str_str, isa_str_dict, isa_list_tuple, isa_list_list, isa_list_bool, isa_list_int, isa_list_str, isa_list_dict, isa_tuple_tuple, isa_tuple_list, isa_tuple_bool, isa_tuple_int, isa_tuple_str, isa_tuple_dict, isa_dict_tuple, isa_dict_list, isa_dict_bool, isa_dict_int, isa_dict_str, isa_dict_dict]
      exact h
  | list xs =>
    cases y with
    | dict => cases py
    | list ys =>
      simp only [sCells, sAsg, sSeq, sIf, sSet, sRet, sRetN, sNext, sBoxPut, sPar, setAll, sExprM, mMeth, tyD, tBool, tTru, tAndM, tOrM, tNotM, m1, m2, mN, mV, mC, mCall, mBoxI, aNil, aCons, mIf, mTup, mLst, mLk, hasD, mAndV, mOrV, pNotB, pNeg, aSeq, seqD, itemsS, aRng1, aRng2, aRng3, gN, gT, gsNil, gsCons, gSt, pSetL, pSetK, pSetT, qAppend, pAddE, pAdd, pSub, pInt1, pMod, pFdiv, pIx, pLen, pLenB, pAny, pAll, pTupOf, pListOf, pIs, pIsNot, isD, pSl, pSlL, oNone, oSome, pEq_int, pNe_int, pLt_int, pGt_int, pLe_int, pGe_int, mChain, pRev, pRevL, aEnum, aZip, pUpper, mCount, List.set_cons_zero, List.set_cons_succ, List.getElem?_cons_zero, List.getElem?_cons_succ, List.length_cons, List.length_nil, if_true, if_false, Bool.false_eq_true, true_and, and_true, decide_eq_true_eq, wipeD, tTrue, List.map_cons, List.map_nil, natD, at20, at21, at30, at31, at32, Option.some.injEq, exists_eq_left', pIsa, tyN, isa_NoneType_tuple, isa_NoneType_list, isa_NoneType_bool, isa_NoneType_int, isa_NoneType_str, isa_NoneType_dict, isa_bool_tuple, isa_bool_list, isa_bool_bool, isa_bool_int, isa_bool_str, isa_bool_dict, isa_int_tuple, isa_int_list, isa_int_bool, isa_int_int, isa_int_str, isa_int_dict, isa_str_tuple, isa_str_list, isa_str_bool, isa_str_int, isa_str_str, isa_str_dict, isa_list_tuple, isa_list_list, isa_list_bool, isa_list_int, isa_list_str, isa_list_dict, isa_tuple_tuple, isa_tuple_list, isa_tuple_bool, isa_tuple_int, isa_tuple_str, isa_tuple_dict, isa_dict_tuple, isa_dict_list, isa_dict_bool, isa_dict_int, isa_dict_str, isa_dict_dict]
      intro z1 z2
      by_cases he : xs.length = ys.length
      · rw [if_pos (by omega)]
        refine seq _ _ xs ys (.inr ⟨rfl, rfl⟩) (by simpa [PyData.plain] using px) (by simpa [PyData.plain] using py) (ll dx) (ll dy) z1 he _ ?_
        refine ⟨(List.range xs.length).map fun k => sameD (xs.getD k .none) (ys.getD k .none), by rw [List.map_map]; rfl, ?_⟩
        rw [fin xs ys he]
        unfold sameD at h
        rw [decide_eq_true he] at h; exact h
      · rw [if_neg (by omega)]
        unfold sameD at h
        rw [decide_eq_false he] at h; exact h
    | _ =>
      simp only [sCells, sAsg, sSeq, sIf, sSet, sRet, sRetN, sNext, sBoxPut, sPar, setAll, sExprM, mMeth, tyD, tBool, tTru, tAndM, tOrM, tNotM, m1, m2, mN, mV, mC, mCall, mBoxI, aNil, aCons, mIf, mTup, mLst, mLk, hasD, mAndV, mOrV, pNotB, pNeg, aSeq, seqD, itemsS, aRng1, aRng2, aRng3, gN, gT, gsNil, gsCons, gSt, pSetL, pSetK, pSetT, qAppend, pAddE, pAdd, pSub, pInt1, pMod, pFdiv, pIx, pLen, pLenB, pAny, pAll, pTupOf, pListOf, pIs, pIsNot, isD, pSl, pSlL, oNone, oSome, pEq_int, pNe_int, pLt_int, pGt_int, pLe_int, pGe_int, mChain, pRev, pRevL, aEnum, aZip, pUpper, mCount, List.set_cons_zero, List.set_cons_succ, List.getElem?_cons_zero, List.getElem?_cons_succ, List.length_cons, List.length_nil, if_true, if_false, Bool.false_eq_true, true_and, and_true, decide_eq_true_eq, wipeD, tTrue, List.map_cons, List.map_nil, natD, at20, at21, at30, at31, at32, Option.some.injEq, exists_eq_left', pIsa, tyN, isa_NoneType_tuple, isa_NoneType_list, isa_NoneType_bool, isa_NoneType_int, isa_NoneType_str, isa_NoneType_dict, isa_bool_tuple, isa_bool_list, isa_bool_bool, isa_bool_int, isa_bool_str, isa_bool_dict, isa_int_tuple, isa_int_list, isa_int_bool, isa_int_int, isa_int_str, isa_int_dict, isa_str_tuple, isa_str_list, isa_str_bool, isa_str_int, isa_str_str, isa_str_dict, isa_list_tuple, isa_list_list, isa_list_bool, isa_list_int, isa_list_str, isa_list_dict, isa_tuple_tuple, isa_tuple_list, isa_tuple_bool, isa_tuple_int, isa_tuple_str, isa_tuple_dict, isa_dict_tuple, isa_dict_list, isa_dict_bool, isa_dict_int, isa_dict_str, isa_dict_dict]
      exact h
  | _ =>
    cases y with
    | dict => cases py
    | _ =>
      simp only [sCells, sAsg, sSeq, sIf, sSet, sRet, sRetN, sNext, sBoxPut, sPar, setAll, sExprM, mMeth, tyD, tBool, tTru, tAndM, tOrM, tNotM, m1, m2, mN, mV, mC, mCall, mBoxI, aNil, aCons, mIf, mTup, mLst, mLk, hasD, mAndV, mOrV, pNotB, pNeg, aSeq, seqD, itemsS, aRng1, aRng2, aRng3, gN, gT, gsNil, gsCons, gSt, pSetL, pSetK, pSetT, qAppend, pAddE, pAdd, pSub, pInt1, pMod, pFdiv, pIx, pLen, pLenB, pAny, pAll, pTupOf, pListOf, pIs, pIsNot, isD, pSl, pSlL, oNone, oSome, pEq_int, pNe_int, pLt_int, pGt_int, pLe_int, pGe_int, mChain, pRev, pRevL, aEnum, aZip, pUpper, mCount, List.set_cons_zero, List.set_cons_succ, List.getElem?_cons_zero, List.getElem?_cons_succ, List.length_cons, List.length_nil, if_true, if_false, Bool.false_eq_true, true_and, and_true, decide_eq_true_eq, wipeD, tTrue, List.map_cons, List.map_nil, natD, at20, at21, at30, at31, at32, Option.some.injEq, exists_eq_left', pIsa, tyN, isa_NoneType_tuple, isa_NoneType_list, isa_NoneType_bool, isa_NoneType_int, isa_NoneType_str, isa_NoneType_dict, isa_bool_tuple, isa_bool_list, isa_bool_bool, isa_bool_int, isa_bool_str, isa_bool_dict, isa_int_tuple, isa_int_list, isa_int_bool, isa_int_int, isa_int_str, isa_int_dict, isa_str_tuple, isa_str_list, isa_str_bool, isa_str_int, isa_str_str, isa_str_dict, isa_list_tuple, isa_list_list, isa_list_bool, isa_list_int, isa_list_str, isa_list_dict, isa_tuple_tuple, isa_tuple_list, isa_tuple_bool, isa_tuple_int, isa_tuple_str, isa_tuple_dict, isa_dict_tuple, isa_dict_list, isa_dict_bool, isa_dict_int, isa_dict_str, isa_dict_dict, pEq_bool, pEq_str]
      exact h
theorem ok_law {f : Addr} {fd : FuncData} (F : Fun K "law" "law" s_law f fd) {f__law_box : Addr} {fd__law_box : FuncData} (F__law_box : Fun K "_law_box" "_law_box" s__law_box f__law_box fd__law_box) (g__law_box : mg "_law_box" = some (.ref f__law_box)) (b__law_box : Binds K fd__law_box ["script"] []) (G__law_box : FnOk P w K mg base CX0 1 f__law_box fd__law_box ["script"] (spBox K)) (m_dict : mg "dict" = none) (m_len : mg "len" = none) (m_max : mg "max" = none) (m_range : mg "range" = none) (m_sorted : mg "sorted" = none) (m_sum : mg "sum" = none) (m_tuple : mg "tuple" = none) {f__law_same : Addr} {fd__law_same : FuncData} (F__law_same : Fun K "_law_same" "_law_same" s__law_same f__law_same fd__law_same) (g__law_same : mg "_law_same" = some (.ref f__law_same)) (b__law_same : Binds K fd__law_same ["a", "b"] []) (G__law_same : FnOk P w K mg base CX0 10 f__law_same fd__law_same ["a", "b"] (spD K 2 (fSame 10))) {f_best_cuts : Addr} {fd_best_cuts : FuncData} (F_best_cuts : Fun K "best_cuts" "best_cuts" s_best_cuts f_best_cuts fd_best_cuts) (g_best_cuts : mg "best_cuts" = some (.ref f_best_cuts)) (b_best_cuts : Binds K fd_best_cuts ["net", "lights", "moment", "many"] []) (G_best_cuts : FnOk P w K mg base CX0 5 f_best_cuts fd_best_cuts ["net", "lights", "moment", "many"] (spD K 4 q_best_cuts)) {f_saved_length : Addr} {fd_saved_length : FuncData} (F_saved_length : Fun K "saved_length" "saved_length" s_saved_length f_saved_length fd_saved_length) (g_saved_length : mg "saved_length" = some (.ref f_saved_length)) (b_saved_length : Binds K fd_saved_length ["net", "lights", "cut"] []) (G_saved_length : FnOk P w K mg base CX0 4 f_saved_length fd_saved_length ["net", "lights", "cut"] (spD K 3 q_saved_length)) {f__law_saved : Addr} {fd__law_saved : FuncData} (F__law_saved : Fun K "_law_saved" "_law_saved" s__law_saved f__law_saved fd__law_saved) (g__law_saved : mg "_law_saved" = some (.ref f__law_saved)) (b__law_saved : Binds K fd__law_saved ["net", "lights", "cut"] []) (G__law_saved : FnOk P w K mg base CX0 2 f__law_saved fd__law_saved ["net", "lights", "cut"] (spD K 3 q__law_saved)) {f__law_draw : Addr} {fd__law_draw : FuncData} (F__law_draw : Fun K "_law_draw" "_law_draw" s__law_draw f__law_draw fd__law_draw) (g__law_draw : mg "_law_draw" = some (.ref f__law_draw)) (b__law_draw : Binds K fd__law_draw ["box", "many"] []) (G__law_draw : FnOk P w K mg base CX0 2 f__law_draw fd__law_draw ["box", "many"] (spB K boxK 1 fDraw)) {f__law_sets : Addr} {fd__law_sets : FuncData} (F__law_sets : Fun K "_law_sets" "_law_sets" s__law_sets f__law_sets fd__law_sets) (g__law_sets : mg "_law_sets" = some (.ref f__law_sets)) (b__law_sets : Binds K fd__law_sets ["rows"] []) (G__law_sets : FnOk P w K mg base CX0 1 f__law_sets fd__law_sets ["rows"] (spD K 1 q__law_sets)) {f_can_be_cut : Addr} {fd_can_be_cut : FuncData} (F_can_be_cut : Fun K "can_be_cut" "can_be_cut" s_can_be_cut f_can_be_cut fd_can_be_cut) (g_can_be_cut : mg "can_be_cut" = some (.ref f_can_be_cut)) (b_can_be_cut : Binds K fd_can_be_cut ["net", "lights", "moment"] []) (G_can_be_cut : FnOk P w K mg base CX0 4 f_can_be_cut fd_can_be_cut ["net", "lights", "moment"] (spD K 3 q_can_be_cut)) {f_is_net : Addr} {fd_is_net : FuncData} (F_is_net : Fun K "is_net" "is_net" s_is_net f_is_net fd_is_net) (g_is_net : mg "is_net" = some (.ref f_is_net)) (b_is_net : Binds K fd_is_net ["value"] []) (G_is_net : FnOk P w K mg base CX0 3 f_is_net fd_is_net ["value"] (spD K 1 q_is_net)) {f__law_free : Addr} {fd__law_free : FuncData} (F__law_free : Fun K "_law_free" "_law_free" s__law_free f__law_free fd__law_free) (g__law_free : mg "_law_free" = some (.ref f__law_free)) (b__law_free : Binds K fd__law_free ["net", "lights", "moment"] []) (G__law_free : FnOk P w K mg base CX0 3 f__law_free fd__law_free ["net", "lights", "moment"] (spD K 3 q__law_free)) {f__law_lights : Addr} {fd__law_lights : FuncData} (F__law_lights : Fun K "_law_lights" "_law_lights" s__law_lights f__law_lights fd__law_lights) (g__law_lights : mg "_law_lights" = some (.ref f__law_lights)) (b__law_lights : Binds K fd__law_lights ["box", "net", "most", "late"] []) (G__law_lights : FnOk P w K mg base CX0 3 f__law_lights fd__law_lights ["box", "net", "most", "late"] (spB K boxK 3 q__law_lights)) {f__law_net : Addr} {fd__law_net : FuncData} (F__law_net : Fun K "_law_net" "_law_net" s__law_net f__law_net fd__law_net) (g__law_net : mg "_law_net" = some (.ref f__law_net)) (b__law_net : Binds K fd__law_net ["box", "knots", "fuses", "most"] []) (G__law_net : FnOk P w K mg base CX0 3 f__law_net fd__law_net ["box", "knots", "fuses", "most"] (spB K boxK 3 q__law_net)) : FnOk P w K mg base CX0 11 f fd ["script"] (spLaw K) := by
  have nd := sc_law.nd
  refine lawD F sc_law (by decide) i_law rfl rfl rfl (fun cdv A outer s H E hr => ps_set (i := 1) nd rfl (.inl rfl) (pe_call (E := E0) G__law_box (hr.mono (by omega)) (by rfl) g__law_box F__law_box.kp b__law_box .nil pass0 (pa_cons (pv 0) pa_nil))) (fun cdv A outer s H E hr => (dss_cons (ds_for [] (by decide) rfl (di_range1 (by rfl) m_range (dae_cons de_int dae_nil)) (dgw (w_gn 2 nd))
 (dss_cons (w_set 3 nd (w_callB 1 G__law_net (hr.mono (by omega)) g__law_net F__law_net.kp b__law_net (dae_cons de_int (dae_cons de_int (dae_cons de_int dae_nil)))))
 (dss_cons (w_set 4 nd (w_callB 1 G__law_lights (hr.mono (by omega)) g__law_lights F__law_lights.kp b__law_lights (dae_cons (w_v 3) (dae_cons de_int (dae_cons de_int dae_nil)))))
 (dss_cons (ds_parT [5, 6] (slotsOk (by decide)) (by decide) rfl (dax_e (w_callB 1 G__law_draw (hr.mono (by omega)) g__law_draw F__law_draw.kp b__law_draw (dae_cons de_int dae_nil)) (dax_e (w_callB 1 G__law_draw (hr.mono (by omega)) g__law_draw F__law_draw.kp b__law_draw (dae_cons de_int dae_nil)) dax_nil)) (pgs_cons (pg_name (i := 5) nd rfl (by first | exact .inl rfl | exact .inr rfl)) (pgs_cons (pg_name (i := 6) nd rfl (by first | exact .inl rfl | exact .inr rfl)) pgs_nil)))
 (dss_cons (w_set 7 nd (w_call G__law_free (hr.mono (by omega)) g__law_free F__law_free.kp b__law_free (dae_cons (w_v 3) (dae_cons (w_v 4) (dae_cons (w_v 5) dae_nil)))))
 (dss_cons (ds_if (dt_w (dw_or (dt_cmp r_isNot (db (w_call G_is_net (hr.mono (by omega)) g_is_net F_is_net.kp b_is_net (dae_cons (w_v 3) dae_nil))) (db de_bl)) (dw_or1 (dt_not (dt_tru (db (w_call G__law_same (hr.mono (by omega)) g__law_same F__law_same.kp b__law_same (dae_cons (w_call G_can_be_cut (hr.mono (by omega)) g_can_be_cut F_can_be_cut.kp b_can_be_cut (dae_cons (w_v 3) (dae_cons (w_v 4) (dae_cons (w_v 5) dae_nil)))) (dae_cons (de_bty r_tupOf (by rfl) m_tuple boot_tuple (dab_cons (w_b 7) dab_nil)) dae_nil)))))))))
 (dss_one (ds_ret de_bl))
 dss_nil)
 (dss_cons (ds_setLcV 8 [("cut", 10)] [] ⟨by decide, by decide, by decide, by decide⟩ (by decide) (by decide) rfl nd rfl rfl (sw_true rfl rfl rfl (by decide +kernel)) (di_seq (dq (w_call G__law_sets (hr.mono (by omega)) g__law_sets F__law_sets.kp b__law_sets (dae_cons (w_v 7) dae_nil)))) (blkOk_by (by kernel_rfl)) (fun _ _ _ _ _ => (w_gn 10 nd)) (fun _ _ _ _ _ => (dts_one (dt_cmp (r_le (hu200 hr)) (db (de_bi r_len (by rfl) m_len boot_len (dab_cons (w_b 10) dab_nil))) (w_b 6)))) (fun _ _ _ _ _ => (w_v 10)))
 (dss_cons (ds_for [] (by decide) rfl (di_range1 (by rfl) m_range (dae_cons de_int dae_nil)) (dgw (w_gn 9 nd))
 (dss_cons (w_set 10 nd (de_ix (hu200 hr) (w_b 8) (w_callB 1 G__law_draw (hr.mono (by omega)) g__law_draw F__law_draw.kp b__law_draw (dae_cons (de_bi r_len (by rfl) m_len boot_len (dab_cons (w_b 8) dab_nil)) dae_nil))))
 (dss_cons (w_set 11 nd (w_call G_saved_length (hr.mono (by omega)) g_saved_length F_saved_length.kp b_saved_length (dae_cons (w_v 3) (dae_cons (w_v 4) (dae_cons (w_v 10) dae_nil)))))
 (dss_cons (ds_if (dt_not (dt_tru (db (w_call G__law_same (hr.mono (by omega)) g__law_same F__law_same.kp b__law_same (dae_cons (w_v 11) (dae_cons (w_call G__law_saved (hr.mono (by omega)) g__law_saved F__law_saved.kp b__law_saved (dae_cons (w_v 3) (dae_cons (w_v 4) (dae_cons (w_v 10) dae_nil)))) dae_nil))))))
 (dss_one (ds_ret de_bl))
 dss_nil)
 (dss_cons (w_set 12 nd (de_bty r_tupOf (by rfl) m_tuple boot_tuple (dab_cons (db (de (df_bi (r_sorted rfl (hu200 hr)) (by rfl) m_sorted boot_sorted (dab_cons (db (de (df_bty (r_dictPT rfl (hu200 hr)) (by rfl) m_dict boot_dict (dab_cons (db (de (df_lc [("fuse", 14)] [] ⟨by decide, by decide, by decide, by decide⟩ (by decide) rfl nd (di_seq (dq (de_binE r_addE (w_v 10) (de_tup (dae_cons (de_ix (hu200 hr) (w_b 3) (w_callB 1 G__law_draw (hr.mono (by omega)) g__law_draw F__law_draw.kp b__law_draw (dae_cons (de_bi r_len (by rfl) m_len boot_len (dab_cons (w_b 3) dab_nil)) dae_nil))) dae_nil))))) (blkOk_by (by kernel_rfl)) (fun _ _ _ _ _ => (w_gn 14 nd)) (fun _ _ _ _ _ => dts_nil) (fun _ _ _ _ _ => (de_tup (dae_cons (w_v 14) (dae_cons de_int dae_nil))))))) dab_nil)))) dab_nil)))) dab_nil)))
 (dss_one (ds_if (dt_w (dw_or (dt_cmp (r_lt (hu200 hr)) (db (w_call G_saved_length (hr.mono (by omega)) g_saved_length F_saved_length.kp b_saved_length (dae_cons (w_v 3) (dae_cons (w_v 4) (dae_cons (w_v 12) dae_nil))))) (w_b 11)) (dw_or1 (dt_cmp (r_ne (hu200 hr)) (db (w_call G_saved_length (hr.mono (by omega)) g_saved_length F_saved_length.kp b_saved_length (dae_cons (w_v 3) (dae_cons (w_v 4) (dae_cons (w_v 3) dae_nil))))) (db (de_bi (r_sum rfl) (by rfl) m_sum boot_sum (dab_cons (db (de (df_lc [("fuse", 14)] [] ⟨by decide, by decide, by decide, by decide⟩ (by decide) rfl nd (di_seq (dq (w_v 3))) (blkOk_by (by kernel_rfl)) (fun _ _ _ _ _ => (w_gn 14 nd)) (fun _ _ _ _ _ => dts_nil) (fun _ _ _ _ _ => (de_ix (hu200 hr) (w_b 14) de_int))))) dab_nil)))))))
 (dss_one (ds_ret de_bl))
 dss_nil)))))) PassesOwn.never)
 (dss_cons (w_set 13 nd (de_bi (r_max rfl (hu200 hr)) (by rfl) m_max boot_max (dab_cons (db (de (df_lc [("cut", 10)] [] ⟨by decide, by decide, by decide, by decide⟩ (by decide) rfl nd (di_seq (dq (w_v 8))) (blkOk_by (by kernel_rfl)) (fun _ _ _ _ _ => (w_gn 10 nd)) (fun _ _ _ _ _ => dts_nil) (fun _ _ _ _ _ => (w_call G__law_saved (hr.mono (by omega)) g__law_saved F__law_saved.kp b__law_saved (dae_cons (w_v 3) (dae_cons (w_v 4) (dae_cons (w_v 10) dae_nil)))))))) dab_nil)))
 (dss_one (ds_if (dt_not (dt_tru (db (w_call G__law_same (hr.mono (by omega)) g__law_same F__law_same.kp b__law_same (dae_cons (w_call G_best_cuts (hr.mono (by omega)) g_best_cuts F_best_cuts.kp b_best_cuts (dae_cons (w_v 3) (dae_cons (w_v 4) (dae_cons (w_v 5) (dae_cons (w_v 6) dae_nil))))) (dae_cons (de_ix (hu200 hr) (db (de (df_lc [("cut", 10)] [] ⟨by decide, by decide, by decide, by decide⟩ (by decide) rfl nd (di_seq (dq (w_v 8))) (blkOk_by (by kernel_rfl)) (fun _ _ _ _ _ => (w_gn 10 nd)) (fun _ _ _ _ _ => (dts_one (dt_cmp (r_eq (hu200 hr)) (db (w_call G__law_saved (hr.mono (by omega)) g__law_saved F__law_saved.kp b__law_saved (dae_cons (w_v 3) (dae_cons (w_v 4) (dae_cons (w_v 10) dae_nil))))) (w_b 13)))) (fun _ _ _ _ _ => (w_v 10))))) de_int) dae_nil))))))
 (dss_one (ds_ret de_bl))
 dss_nil)))))))))) PassesOwn.never)
 (dss_cons (ds_parT [3, 4] (slotsOk (by decide)) (by decide) rfl (dax_e (de_tup (dae_cons (de_tup (dae_cons de_str (dae_cons de_str (dae_cons de_int dae_nil)))) (dae_cons (de_tup (dae_cons de_str (dae_cons de_str (dae_cons de_int dae_nil)))) (dae_cons (de_tup (dae_cons de_str (dae_cons de_str (dae_cons de_int dae_nil)))) (dae_cons (de_tup (dae_cons de_str (dae_cons de_str (dae_cons de_int dae_nil)))) dae_nil))))) (dax_e (de_tup (dae_cons (de_tup (dae_cons de_str (dae_cons de_int dae_nil))) dae_nil)) dax_nil)) (pgs_cons (pg_name (i := 3) nd rfl (by first | exact .inl rfl | exact .inr rfl)) (pgs_cons (pg_name (i := 4) nd rfl (by first | exact .inl rfl | exact .inr rfl)) pgs_nil)))
 (dss_one (ds_ret (de_and (de_cmp (r_eq (hu200 hr)) (db (w_call G_saved_length (hr.mono (by omega)) g_saved_length F_saved_length.kp b_saved_length (dae_cons (w_v 3) (dae_cons (w_v 4) (dae_cons (de_tup (dae_cons (de_tup (dae_cons de_str (dae_cons de_str (dae_cons de_int dae_nil)))) (dae_cons (de_tup (dae_cons de_str (dae_cons de_str (dae_cons de_int dae_nil)))) dae_nil))) dae_nil))))) (db de_int)) (de_one (w_call G__law_same (hr.mono (by omega)) g__law_same F__law_same.kp b__law_same (dae_cons (w_call G_best_cuts (hr.mono (by omega)) g_best_cuts F_best_cuts.kp b_best_cuts (dae_cons (w_v 3) (dae_cons (w_v 4) (dae_cons de_int (dae_cons de_int dae_nil))))) (dae_cons (de_tup (dae_cons (de_tup (dae_cons de_str (dae_cons de_str (dae_cons de_int dae_nil)))) dae_nil)) dae_nil)))))))))) ?_
  rw [show startD ["script", "box", "turn", "net", "lights", "moment", "many", "free", "rows", "step", "cut", "saved", "more", "most", "fuse"] (List.replicate 2 none) = [none, none, none, none, none, none, none, none, none, none, none, none, none, none, none] from rfl]
  simp only [sCells, sAsg, sSeq, sIf, sSet, sRet, sRetN, sNext, sBoxPut, sPar, setAll, sExprM, mMeth, tyD, tBool, tTru, tAndM, tOrM, tNotM, m1, m2, mN, mV, mC, mCall, mBoxI, aNil, aCons, mIf, mTup, mLst, mLk, hasD, mAndV, mOrV, pNotB, aSeq, itemsS, aRng1, aRng2, aRng3, gN, gsNil, gsCons, gSt, pSetL, pLenB, isD, pSl, pSlL, oNone, oSome, pEq_int, pNe_int, pLt_int, pGt_int, pLe_int, pGe_int, mChain, aEnum, aZip, mCount, List.set_cons_zero, List.set_cons_succ, List.getElem?_cons_zero, List.getElem?_cons_succ, List.length_cons, List.length_nil, if_true, if_false, Bool.false_eq_true, true_and, and_true, decide_eq_true_eq, wipeD, tTrue, List.map_cons, List.map_nil, natD, at20, at21, at30, at31, at32, Option.some.injEq, exists_eq_left', gT_t, pAddE_i, pAddE_s, pAddE_l, pAddE_t, pAdd_i, pAddL_l, pSub_i, pMod_i, pFdiv_i, pNeg_i, pTupOf_l, pListOf_l, pListOf_t, pMin_i, pMax_i, pIs_n, pIs_b, pIsNot_n, pIsNot_b, pInt1_i, pAbs_i, qAppend_l, qExtend_l, qExtend_t, pSum_i, pAny_b, pAll_b, pRev, pRevL, pSl, pIx_t, pIx_l, pLen_map, pLen_mapT, pLen_net, pLen_t, pLen_l, pLen_s, pIn_ss, pNotIn_ss, pIn_s3, pIx_s, pIx_fu0, pIx_fu1, pIx_fu2, pIx_p0, pIx_p1, gT_fu, pEq_fu, pNe_fu, pEq_str, pNe_str, pLt_str, pGt_str, pIn_fl, pIn_ft, pNotIn_fl, pNotIn_ft, pIn_sl, pIn_st, pNotIn_sl, pNotIn_st, pIn_s2, pIx_dS, pIn_dS, pNotIn_dS, pSetK_dS, pLen_dS, pIx_dF, pIn_dF, pNotIn_dF, pSetT_dF, pLen_dF, List.length_map, slD_fu, slD_t, slD_l, slD_s, truD_i, truD_b, truD_n, truD_l, truD_t, revDt_l, revDt_t, fuD_eq, itemsS_t, itemsS_l, seqD_l, seqD_t, seqD_s]
  refine sFor_rng 0 5 (fun i ρ => ∃ o2 o3 o4 o5 o6 o7 o8 o9 o10 o11 o12 o13, ρ = [none, none, o2, o3, o4, o5, o6, o7, o8, o9, o10, o11, o12, o13, none]) (fun R hR => ?_) ⟨_, _, _, _, _, _, _, _, _, _, _, _, rfl⟩ ?_ ?_
  · simp only [sCells, sAsg, sSeq, sIf, sSet, sRet, sRetN, sNext, sBoxPut, sPar, setAll, sExprM, mMeth, tyD, tBool, tTru, tAndM, tOrM, tNotM, m1, m2, mN, mV, mC, mCall, mBoxI, aNil, aCons, mIf, mTup, mLst, mLk, hasD, mAndV, mOrV, pNotB, aSeq, itemsS, aRng1, aRng2, aRng3, gN, gsNil, gsCons, gSt, pSetL, pLenB, isD, pSl, pSlL, oNone, oSome, pEq_int, pNe_int, pLt_int, pGt_int, pLe_int, pGe_int, mChain, aEnum, aZip, mCount, List.set_cons_zero, List.set_cons_succ, List.getElem?_cons_zero, List.getElem?_cons_succ, List.length_cons, List.length_nil, if_true, if_false, Bool.false_eq_true, true_and, and_true, decide_eq_true_eq, wipeD, tTrue, List.map_cons, List.map_nil, natD, at20, at21, at30, at31, at32, Option.some.injEq, exists_eq_left', gT_t, pAddE_i, pAddE_s, pAddE_l, pAddE_t, pAdd_i, pAddL_l, pSub_i, pMod_i, pFdiv_i, pNeg_i, pTupOf_l, pListOf_l, pListOf_t, pMin_i, pMax_i, pIs_n, pIs_b, pIsNot_n, pIsNot_b, pInt1_i, pAbs_i, qAppend_l, qExtend_l, qExtend_t, pSum_i, pAny_b, pAll_b, pRev, pRevL, pSl, pIx_t, pIx_l, pLen_map, pLen_mapT, pLen_net, pLen_t, pLen_l, pLen_s, pIn_ss, pNotIn_ss, pIn_s3, pIx_s, pIx_fu0, pIx_fu1, pIx_fu2, pIx_p0, pIx_p1, gT_fu, pEq_fu, pNe_fu, pEq_str, pNe_str, pLt_str, pGt_str, pIn_fl, pIn_ft, pNotIn_fl, pNotIn_ft, pIn_sl, pIn_st, pNotIn_sl, pNotIn_st, pIn_s2, pIx_dS, pIn_dS, pNotIn_dS, pSetK_dS, pLen_dS, pIx_dF, pIn_dF, pNotIn_dF, pSetT_dF, pLen_dF, List.length_map, slD_fu, slD_t, slD_l, slD_s, truD_i, truD_b, truD_n, truD_l, truD_t, revDt_l, revDt_t, fuD_eq, itemsS_t, itemsS_l, seqD_l, seqD_t, seqD_s]; exact ⟨rngOk_of (by omega) (by omega), hR⟩
  · rintro i _ hi ⟨o2, o3, o4, o5, o6, o7, o8, o9, o10, o11, o12, o13, rfl⟩
    simp only [sCells, sAsg, sSeq, sIf, sSet, sRet, sRetN, sNext, sBoxPut, sPar, setAll, sExprM, mMeth, tyD, tBool, tTru, tAndM, tOrM, tNotM, m1, m2, mN, mV, mC, mCall, mBoxI, aNil, aCons, mIf, mTup, mLst, mLk, hasD, mAndV, mOrV, pNotB, aSeq, itemsS, aRng1, aRng2, aRng3, gN, gsNil, gsCons, gSt, pSetL, pLenB, isD, pSl, pSlL, oNone, oSome, pEq_int, pNe_int, pLt_int, pGt_int, pLe_int, pGe_int, mChain, aEnum, aZip, mCount, List.set_cons_zero, List.set_cons_succ, List.getElem?_cons_zero, List.getElem?_cons_succ, List.length_cons, List.length_nil, if_true, if_false, Bool.false_eq_true, true_and, and_true, decide_eq_true_eq, wipeD, tTrue, List.map_cons, List.map_nil, natD, at20, at21, at30, at31, at32, Option.some.injEq, exists_eq_left', gT_t, pAddE_i, pAddE_s, pAddE_l, pAddE_t, pAdd_i, pAddL_l, pSub_i, pMod_i, pFdiv_i, pNeg_i, pTupOf_l, pListOf_l, pListOf_t, pMin_i, pMax_i, pIs_n, pIs_b, pIsNot_n, pIsNot_b, pInt1_i, pAbs_i, qAppend_l, qExtend_l, qExtend_t, pSum_i, pAny_b, pAll_b, pRev, pRevL, pSl, pIx_t, pIx_l, pLen_map, pLen_mapT, pLen_net, pLen_t, pLen_l, pLen_s, pIn_ss, pNotIn_ss, pIn_s3, pIx_s, pIx_fu0, pIx_fu1, pIx_fu2, pIx_p0, pIx_p1, gT_fu, pEq_fu, pNe_fu, pEq_str, pNe_str, pLt_str, pGt_str, pIn_fl, pIn_ft, pNotIn_fl, pNotIn_ft, pIn_sl, pIn_st, pNotIn_sl, pNotIn_st, pIn_s2, pIx_dS, pIn_dS, pNotIn_dS, pSetK_dS, pLen_dS, pIx_dF, pIn_dF, pNotIn_dF, pSetT_dF, pLen_dF, List.length_map, slD_fu, slD_t, slD_l, slD_s, truD_i, truD_b, truD_n, truD_l, truD_t, revDt_l, revDt_t, fuD_eq, itemsS_t, itemsS_l, seqD_l, seqD_t, seqD_s, q__law_net]
    refine ⟨6, 9, 6, rfl, by decide, by decide, by decide, by decide, by decide, by decide, fun net LN => ?_⟩
    have hN : NetOk net := LN.ok (by decide)
    have hlen : net.length ≤ 9 := LN.len
    have h1 := LN.one
    have hne : net ≠ [] := by rintro rfl; simp at h1
    simp only [sCells, sAsg, sSeq, sIf, sSet, sRet, sRetN, sNext, sBoxPut, sPar, setAll, sExprM, mMeth, tyD, tBool, tTru, tAndM, tOrM, tNotM, m1, m2, mN, mV, mC, mCall, mBoxI, aNil, aCons, mIf, mTup, mLst, mLk, hasD, mAndV, mOrV, pNotB, aSeq, itemsS, aRng1, aRng2, aRng3, gN, gsNil, gsCons, gSt, pSetL, pLenB, isD, pSl, pSlL, oNone, oSome, pEq_int, pNe_int, pLt_int, pGt_int, pLe_int, pGe_int, mChain, aEnum, aZip, mCount, List.set_cons_zero, List.set_cons_succ, List.getElem?_cons_zero, List.getElem?_cons_succ, List.length_cons, List.length_nil, if_true, if_false, Bool.false_eq_true, true_and, and_true, decide_eq_true_eq, wipeD, tTrue, List.map_cons, List.map_nil, natD, at20, at21, at30, at31, at32, Option.some.injEq, exists_eq_left', gT_t, pAddE_i, pAddE_s, pAddE_l, pAddE_t, pAdd_i, pAddL_l, pSub_i, pMod_i, pFdiv_i, pNeg_i, pTupOf_l, pListOf_l, pListOf_t, pMin_i, pMax_i, pIs_n, pIs_b, pIsNot_n, pIsNot_b, pInt1_i, pAbs_i, qAppend_l, qExtend_l, qExtend_t, pSum_i, pAny_b, pAll_b, pRev, pRevL, pSl, pIx_t, pIx_l, pLen_map, pLen_mapT, pLen_net, pLen_t, pLen_l, pLen_s, pIn_ss, pNotIn_ss, pIn_s3, pIx_s, pIx_fu0, pIx_fu1, pIx_fu2, pIx_p0, pIx_p1, gT_fu, pEq_fu, pNe_fu, pEq_str, pNe_str, pLt_str, pGt_str, pIn_fl, pIn_ft, pNotIn_fl, pNotIn_ft, pIn_sl, pIn_st, pNotIn_sl, pNotIn_st, pIn_s2, pIx_dS, pIn_dS, pNotIn_dS, pSetK_dS, pLen_dS, pIx_dF, pIn_dF, pNotIn_dF, pSetT_dF, pLen_dF, List.length_map, slD_fu, slD_t, slD_l, slD_s, truD_i, truD_b, truD_n, truD_l, truD_t, revDt_l, revDt_t, fuD_eq, itemsS_t, itemsS_l, seqD_l, seqD_t, seqD_s, q__law_lights]
    refine ⟨net, 2, 4, rfl, hne, by omega, by decide, by decide, by decide, by decide, fun L LL => ?_⟩
    have hL : LiOk L := LL.ok (by decide)
    simp only [sCells, sAsg, sSeq, sIf, sSet, sRet, sRetN, sNext, sBoxPut, sPar, setAll, sExprM, mMeth, tyD, tBool, tTru, tAndM, tOrM, tNotM, m1, m2, mN, mV, mC, mCall, mBoxI, aNil, aCons, mIf, mTup, mLst, mLk, hasD, mAndV, mOrV, pNotB, aSeq, itemsS, aRng1, aRng2, aRng3, gN, gsNil, gsCons, gSt, pSetL, pLenB, isD, pSl, pSlL, oNone, oSome, pEq_int, pNe_int, pLt_int, pGt_int, pLe_int, pGe_int, mChain, aEnum, aZip, mCount, List.set_cons_zero, List.set_cons_succ, List.getElem?_cons_zero, List.getElem?_cons_succ, List.length_cons, List.length_nil, if_true, if_false, Bool.false_eq_true, true_and, and_true, decide_eq_true_eq, wipeD, tTrue, List.map_cons, List.map_nil, natD, at20, at21, at30, at31, at32, Option.some.injEq, exists_eq_left', gT_t, pAddE_i, pAddE_s, pAddE_l, pAddE_t, pAdd_i, pAddL_l, pSub_i, pMod_i, pFdiv_i, pNeg_i, pTupOf_l, pListOf_l, pListOf_t, pMin_i, pMax_i, pIs_n, pIs_b, pIsNot_n, pIsNot_b, pInt1_i, pAbs_i, qAppend_l, qExtend_l, qExtend_t, pSum_i, pAny_b, pAll_b, pRev, pRevL, pSl, pIx_t, pIx_l, pLen_map, pLen_mapT, pLen_net, pLen_t, pLen_l, pLen_s, pIn_ss, pNotIn_ss, pIn_s3, pIx_s, pIx_fu0, pIx_fu1, pIx_fu2, pIx_p0, pIx_p1, gT_fu, pEq_fu, pNe_fu, pEq_str, pNe_str, pLt_str, pGt_str, pIn_fl, pIn_ft, pNotIn_fl, pNotIn_ft, pIn_sl, pIn_st, pNotIn_sl, pNotIn_st, pIn_s2, pIx_dS, pIn_dS, pNotIn_dS, pSetK_dS, pLen_dS, pIx_dF, pIn_dF, pNotIn_dF, pSetT_dF, pLen_dF, List.length_map, slD_fu, slD_t, slD_l, slD_s, truD_i, truD_b, truD_n, truD_l, truD_t, revDt_l, revDt_t, fuD_eq, itemsS_t, itemsS_l, seqD_l, seqD_t, seqD_s, fDraw]
    refine ⟨6, rfl, by decide, by decide, fun mom hm0 hm1 => ⟨3, rfl, by decide, by decide, fun many hy0 hy1 => ?_⟩⟩
    obtain ⟨many, rfl⟩ := Int.eq_ofNat_of_zero_le hy0
    simp only [sCells, sAsg, sSeq, sIf, sSet, sRet, sRetN, sNext, sBoxPut, sPar, setAll, sExprM, mMeth, tyD, tBool, tTru, tAndM, tOrM, tNotM, m1, m2, mN, mV, mC, mCall, mBoxI, aNil, aCons, mIf, mTup, mLst, mLk, hasD, mAndV, mOrV, pNotB, aSeq, itemsS, aRng1, aRng2, aRng3, gN, gsNil, gsCons, gSt, pSetL, pLenB, isD, pSl, pSlL, oNone, oSome, pEq_int, pNe_int, pLt_int, pGt_int, pLe_int, pGe_int, mChain, aEnum, aZip, mCount, List.set_cons_zero, List.set_cons_succ, List.getElem?_cons_zero, List.getElem?_cons_succ, List.length_cons, List.length_nil, if_true, if_false, Bool.false_eq_true, true_and, and_true, decide_eq_true_eq, wipeD, tTrue, List.map_cons, List.map_nil, natD, at20, at21, at30, at31, at32, Option.some.injEq, exists_eq_left', gT_t, pAddE_i, pAddE_s, pAddE_l, pAddE_t, pAdd_i, pAddL_l, pSub_i, pMod_i, pFdiv_i, pNeg_i, pTupOf_l, pListOf_l, pListOf_t, pMin_i, pMax_i, pIs_n, pIs_b, pIsNot_n, pIsNot_b, pInt1_i, pAbs_i, qAppend_l, qExtend_l, qExtend_t, pSum_i, pAny_b, pAll_b, pRev, pRevL, pSl, pIx_t, pIx_l, pLen_map, pLen_mapT, pLen_net, pLen_t, pLen_l, pLen_s, pIn_ss, pNotIn_ss, pIn_s3, pIx_s, pIx_fu0, pIx_fu1, pIx_fu2, pIx_p0, pIx_p1, gT_fu, pEq_fu, pNe_fu, pEq_str, pNe_str, pLt_str, pGt_str, pIn_fl, pIn_ft, pNotIn_fl, pNotIn_ft, pIn_sl, pIn_st, pNotIn_sl, pNotIn_st, pIn_s2, pIx_dS, pIn_dS, pNotIn_dS, pSetK_dS, pLen_dS, pIx_dF, pIn_dF, pNotIn_dF, pSetT_dF, pLen_dF, List.length_map, slD_fu, slD_t, slD_l, slD_s, truD_i, truD_b, truD_n, truD_l, truD_t, revDt_l, revDt_t, fuD_eq, itemsS_t, itemsS_l, seqD_l, seqD_t, seqD_s, q__law_free]
    refine ⟨net, L, mom, rfl, hN, hL, ?_⟩
    simp only [sCells, sAsg, sSeq, sIf, sSet, sRet, sRetN, sNext, sBoxPut, sPar, setAll, sExprM, mMeth, tyD, tBool, tTru, tAndM, tOrM, tNotM, m1, m2, mN, mV, mC, mCall, mBoxI, aNil, aCons, mIf, mTup, mLst, mLk, hasD, mAndV, mOrV, pNotB, aSeq, itemsS, aRng1, aRng2, aRng3, gN, gsNil, gsCons, gSt, pSetL, pLenB, isD, pSl, pSlL, oNone, oSome, pEq_int, pNe_int, pLt_int, pGt_int, pLe_int, pGe_int, mChain, aEnum, aZip, mCount, List.set_cons_zero, List.set_cons_succ, List.getElem?_cons_zero, List.getElem?_cons_succ, List.length_cons, List.length_nil, if_true, if_false, Bool.false_eq_true, true_and, and_true, decide_eq_true_eq, wipeD, tTrue, List.map_cons, List.map_nil, natD, at20, at21, at30, at31, at32, Option.some.injEq, exists_eq_left', gT_t, pAddE_i, pAddE_s, pAddE_l, pAddE_t, pAdd_i, pAddL_l, pSub_i, pMod_i, pFdiv_i, pNeg_i, pTupOf_l, pListOf_l, pListOf_t, pMin_i, pMax_i, pIs_n, pIs_b, pIsNot_n, pIsNot_b, pInt1_i, pAbs_i, qAppend_l, qExtend_l, qExtend_t, pSum_i, pAny_b, pAll_b, pRev, pRevL, pSl, pIx_t, pIx_l, pLen_map, pLen_mapT, pLen_net, pLen_t, pLen_l, pLen_s, pIn_ss, pNotIn_ss, pIn_s3, pIx_s, pIx_fu0, pIx_fu1, pIx_fu2, pIx_p0, pIx_p1, gT_fu, pEq_fu, pNe_fu, pEq_str, pNe_str, pLt_str, pGt_str, pIn_fl, pIn_ft, pNotIn_fl, pNotIn_ft, pIn_sl, pIn_st, pNotIn_sl, pNotIn_st, pIn_s2, pIx_dS, pIn_dS, pNotIn_dS, pSetK_dS, pLen_dS, pIx_dF, pIn_dF, pNotIn_dF, pSetT_dF, pLen_dF, List.length_map, slD_fu, slD_t, slD_l, slD_s, truD_i, truD_b, truD_n, truD_l, truD_t, revDt_l, revDt_t, fuD_eq, itemsS_t, itemsS_l, seqD_l, seqD_t, seqD_s, q_is_net]
    refine ⟨netD net, rfl, LN.okV (by decide), ?_⟩
    rw [LN.isNet (by decide) (by decide) (by decide)]
    simp only [sCells, sAsg, sSeq, sIf, sSet, sRet, sRetN, sNext, sBoxPut, sPar, setAll, sExprM, mMeth, tyD, tBool, tTru, tAndM, tOrM, tNotM, m1, m2, mN, mV, mC, mCall, mBoxI, aNil, aCons, mIf, mTup, mLst, mLk, hasD, mAndV, mOrV, pNotB, aSeq, itemsS, aRng1, aRng2, aRng3, gN, gsNil, gsCons, gSt, pSetL, pLenB, isD, pSl, pSlL, oNone, oSome, pEq_int, pNe_int, pLt_int, pGt_int, pLe_int, pGe_int, mChain, aEnum, aZip, mCount, List.set_cons_zero, List.set_cons_succ, List.getElem?_cons_zero, List.getElem?_cons_succ, List.length_cons, List.length_nil, if_true, if_false, Bool.false_eq_true, true_and, and_true, decide_eq_true_eq, wipeD, tTrue, List.map_cons, List.map_nil, natD, at20, at21, at30, at31, at32, Option.some.injEq, exists_eq_left', gT_t, pAddE_i, pAddE_s, pAddE_l, pAddE_t, pAdd_i, pAddL_l, pSub_i, pMod_i, pFdiv_i, pNeg_i, pTupOf_l, pListOf_l, pListOf_t, pMin_i, pMax_i, pIs_n, pIs_b, pIsNot_n, pIsNot_b, pInt1_i, pAbs_i, qAppend_l, qExtend_l, qExtend_t, pSum_i, pAny_b, pAll_b, pRev, pRevL, pSl, pIx_t, pIx_l, pLen_map, pLen_mapT, pLen_net, pLen_t, pLen_l, pLen_s, pIn_ss, pNotIn_ss, pIn_s3, pIx_s, pIx_fu0, pIx_fu1, pIx_fu2, pIx_p0, pIx_p1, gT_fu, pEq_fu, pNe_fu, pEq_str, pNe_str, pLt_str, pGt_str, pIn_fl, pIn_ft, pNotIn_fl, pNotIn_ft, pIn_sl, pIn_st, pNotIn_sl, pNotIn_st, pIn_s2, pIx_dS, pIn_dS, pNotIn_dS, pSetK_dS, pLen_dS, pIx_dF, pIn_dF, pNotIn_dF, pSetT_dF, pLen_dF, List.length_map, slD_fu, slD_t, slD_l, slD_s, truD_i, truD_b, truD_n, truD_l, truD_t, revDt_l, revDt_t, fuD_eq, itemsS_t, itemsS_l, seqD_l, seqD_t, seqD_s, isD, beq_self_eq_true, Bool.not_true]
    simp only [q_can_be_cut]
    refine ⟨net, L, mom, rfl, hN, hL, ?_⟩
    refine same_net rfl ?_
    simp only [sCells, sAsg, sSeq, sIf, sSet, sRet, sRetN, sNext, sBoxPut, sPar, setAll, sExprM, mMeth, tyD, tBool, tTru, tAndM, tOrM, tNotM, m1, m2, mN, mV, mC, mCall, mBoxI, aNil, aCons, mIf, mTup, mLst, mLk, hasD, mAndV, mOrV, pNotB, aSeq, itemsS, aRng1, aRng2, aRng3, gN, gsNil, gsCons, gSt, pSetL, pLenB, isD, pSl, pSlL, oNone, oSome, pEq_int, pNe_int, pLt_int, pGt_int, pLe_int, pGe_int, mChain, aEnum, aZip, mCount, List.set_cons_zero, List.set_cons_succ, List.getElem?_cons_zero, List.getElem?_cons_succ, List.length_cons, List.length_nil, if_true, if_false, Bool.false_eq_true, true_and, and_true, decide_eq_true_eq, wipeD, tTrue, List.map_cons, List.map_nil, natD, at20, at21, at30, at31, at32, Option.some.injEq, exists_eq_left', gT_t, pAddE_i, pAddE_s, pAddE_l, pAddE_t, pAdd_i, pAddL_l, pSub_i, pMod_i, pFdiv_i, pNeg_i, pTupOf_l, pListOf_l, pListOf_t, pMin_i, pMax_i, pIs_n, pIs_b, pIsNot_n, pIsNot_b, pInt1_i, pAbs_i, qAppend_l, qExtend_l, qExtend_t, pSum_i, pAny_b, pAll_b, pRev, pRevL, pSl, pIx_t, pIx_l, pLen_map, pLen_mapT, pLen_net, pLen_t, pLen_l, pLen_s, pIn_ss, pNotIn_ss, pIn_s3, pIx_s, pIx_fu0, pIx_fu1, pIx_fu2, pIx_p0, pIx_p1, gT_fu, pEq_fu, pNe_fu, pEq_str, pNe_str, pLt_str, pGt_str, pIn_fl, pIn_ft, pNotIn_fl, pNotIn_ft, pIn_sl, pIn_st, pNotIn_sl, pNotIn_st, pIn_s2, pIx_dS, pIn_dS, pNotIn_dS, pSetK_dS, pLen_dS, pIx_dF, pIn_dF, pNotIn_dF, pSetT_dF, pLen_dF, List.length_map, slD_fu, slD_t, slD_l, slD_s, truD_i, truD_b, truD_n, truD_l, truD_t, revDt_l, revDt_t, fuD_eq, itemsS_t, itemsS_l, seqD_l, seqD_t, seqD_s]
    simp only [mLc, sCells, sAsg, sSeq, sIf, sSet, sRet, sRetN, sNext, sBoxPut, sPar, setAll, sExprM, mMeth, tyD, tBool, tTru, tAndM, tOrM, tNotM, m1, m2, mN, mV, mC, mCall, mBoxI, aNil, aCons, mIf, mTup, mLst, mLk, hasD, mAndV, mOrV, pNotB, aSeq, itemsS, aRng1, aRng2, aRng3, gN, gsNil, gsCons, gSt, pSetL, pLenB, isD, pSl, pSlL, oNone, oSome, pEq_int, pNe_int, pLt_int, pGt_int, pLe_int, pGe_int, mChain, aEnum, aZip, mCount, List.set_cons_zero, List.set_cons_succ, List.getElem?_cons_zero, List.getElem?_cons_succ, List.length_cons, List.length_nil, if_true, if_false, Bool.false_eq_true, true_and, and_true, decide_eq_true_eq, wipeD, tTrue, List.map_cons, List.map_nil, natD, at20, at21, at30, at31, at32, Option.some.injEq, exists_eq_left', gT_t, pAddE_i, pAddE_s, pAddE_l, pAddE_t, pAdd_i, pAddL_l, pSub_i, pMod_i, pFdiv_i, pNeg_i, pTupOf_l, pListOf_l, pListOf_t, pMin_i, pMax_i, pIs_n, pIs_b, pIsNot_n, pIsNot_b, pInt1_i, pAbs_i, qAppend_l, qExtend_l, qExtend_t, pSum_i, pAny_b, pAll_b, pRev, pRevL, pSl, pIx_t, pIx_l, pLen_map, pLen_mapT, pLen_net, pLen_t, pLen_l, pLen_s, pIn_ss, pNotIn_ss, pIn_s3, pIx_s, pIx_fu0, pIx_fu1, pIx_fu2, pIx_p0, pIx_p1, gT_fu, pEq_fu, pNe_fu, pEq_str, pNe_str, pLt_str, pGt_str, pIn_fl, pIn_ft, pNotIn_fl, pNotIn_ft, pIn_sl, pIn_st, pNotIn_sl, pNotIn_st, pIn_s2, pIx_dS, pIn_dS, pNotIn_dS, pSetK_dS, pLen_dS, pIx_dF, pIn_dF, pNotIn_dF, pSetT_dF, pLen_dF, List.length_map, slD_fu, slD_t, slD_l, slD_s, truD_i, truD_b, truD_n, truD_l, truD_t, revDt_l, revDt_t, fuD_eq, itemsS_t, itemsS_l, seqD_l, seqD_t, seqD_s, q__law_sets]
    have hfa : Asc (freeF net L mom) := LN.asc.filter' _
    have hfl : (freeF net L mom).length ≤ 9 := Nat.le_trans (List.length_filter_le _ _) hlen
    refine ⟨freeF net L mom, rfl, by omega, fun hsz => ?_⟩
    refine mLcD_filter _ netD netD (fun r => decide (r.length ≤ many)) (by rw [List.length_map]; exact hsz) (fun r hr P N hp hn => ?_) ?_
    · simp only [sCells, sAsg, sSeq, sIf, sSet, sRet, sRetN, sNext, sBoxPut, sPar, setAll, sExprM, mMeth, tyD, tBool, tTru, tAndM, tOrM, tNotM, m1, m2, mN, mV, mC, mCall, mBoxI, aNil, aCons, mIf, mTup, mLst, mLk, hasD, mAndV, mOrV, pNotB, aSeq, itemsS, aRng1, aRng2, aRng3, gN, gsNil, gsCons, gSt, pSetL, pLenB, isD, pSl, pSlL, oNone, oSome, pEq_int, pNe_int, pLt_int, pGt_int, pLe_int, pGe_int, mChain, aEnum, aZip, mCount, List.set_cons_zero, List.set_cons_succ, List.getElem?_cons_zero, List.getElem?_cons_succ, List.length_cons, List.length_nil, if_true, if_false, Bool.false_eq_true, true_and, and_true, decide_eq_true_eq, wipeD, tTrue, List.map_cons, List.map_nil, natD, at20, at21, at30, at31, at32, Option.some.injEq, exists_eq_left', gT_t, pAddE_i, pAddE_s, pAddE_l, pAddE_t, pAdd_i, pAddL_l, pSub_i, pMod_i, pFdiv_i, pNeg_i, pTupOf_l, pListOf_l, pListOf_t, pMin_i, pMax_i, pIs_n, pIs_b, pIsNot_n, pIsNot_b, pInt1_i, pAbs_i, qAppend_l, qExtend_l, qExtend_t, pSum_i, pAny_b, pAll_b, pRev, pRevL, pSl, pIx_t, pIx_l, pLen_map, pLen_mapT, pLen_net, pLen_t, pLen_l, pLen_s, pIn_ss, pNotIn_ss, pIn_s3, pIx_s, pIx_fu0, pIx_fu1, pIx_fu2, pIx_p0, pIx_p1, gT_fu, pEq_fu, pNe_fu, pEq_str, pNe_str, pLt_str, pGt_str, pIn_fl, pIn_ft, pNotIn_fl, pNotIn_ft, pIn_sl, pIn_st, pNotIn_sl, pNotIn_st, pIn_s2, pIx_dS, pIn_dS, pNotIn_dS, pSetK_dS, pLen_dS, pIx_dF, pIn_dF, pNotIn_dF, pSetT_dF, pLen_dF, List.length_map, slD_fu, slD_t, slD_l, slD_s, truD_i, truD_b, truD_n, truD_l, truD_t, revDt_l, revDt_t, fuD_eq, itemsS_t, itemsS_l, seqD_l, seqD_t, seqD_s]
      by_cases c : r.length ≤ many
      · rw [if_pos (by omega)]; exact hp (decide_eq_true c)
      · rw [if_neg (by omega)]; exact hn (decide_eq_false c)
    rw [allC_law hfa]
    have hrn : allC (freeF net L mom) many ≠ [] := allC_ne _ _
    have hrz : (allC (freeF net L mom) many).length ≤ 16777216 := by
      rw [← allC_law hfa many]
      refine Nat.le_trans (List.length_filter_le _ _) ?_
      rw [List.length_map, ← sizeLine_eq]; exact hsz
    generalize hrows : allC (freeF net L mom) many = rows at hrn hrz ⊢
    have hrp : 0 < rows.length := List.length_pos_iff.mpr hrn
    refine sFor_rng 0 4 (fun i ρ => ∃ o2 o9 o10 o11 o12, ρ = [none, none, o2, some (netD net), some (lisD L), some (.int mom), some (.int many), some (.list ((freeF net L mom).map fuD)), some (.list (rows.map netD)), o9, o10, o11, o12, o13, none]) (fun R hR => ?_) ⟨_, _, _, _, _, rfl⟩ ?_ ?_
    · simp only [sCells, sAsg, sSeq, sIf, sSet, sRet, sRetN, sNext, sBoxPut, sPar, setAll, sExprM, mMeth, tyD, tBool, tTru, tAndM, tOrM, tNotM, m1, m2, mN, mV, mC, mCall, mBoxI, aNil, aCons, mIf, mTup, mLst, mLk, hasD, mAndV, mOrV, pNotB, aSeq, itemsS, aRng1, aRng2, aRng3, gN, gsNil, gsCons, gSt, pSetL, pLenB, isD, pSl, pSlL, oNone, oSome, pEq_int, pNe_int, pLt_int, pGt_int, pLe_int, pGe_int, mChain, aEnum, aZip, mCount, List.set_cons_zero, List.set_cons_succ, List.getElem?_cons_zero, List.getElem?_cons_succ, List.length_cons, List.length_nil, if_true, if_false, Bool.false_eq_true, true_and, and_true, decide_eq_true_eq, wipeD, tTrue, List.map_cons, List.map_nil, natD, at20, at21, at30, at31, at32, Option.some.injEq, exists_eq_left', gT_t, pAddE_i, pAddE_s, pAddE_l, pAddE_t, pAdd_i, pAddL_l, pSub_i, pMod_i, pFdiv_i, pNeg_i, pTupOf_l, pListOf_l, pListOf_t, pMin_i, pMax_i, pIs_n, pIs_b, pIsNot_n, pIsNot_b, pInt1_i, pAbs_i, qAppend_l, qExtend_l, qExtend_t, pSum_i, pAny_b, pAll_b, pRev, pRevL, pSl, pIx_t, pIx_l, pLen_map, pLen_mapT, pLen_net, pLen_t, pLen_l, pLen_s, pIn_ss, pNotIn_ss, pIn_s3, pIx_s, pIx_fu0, pIx_fu1, pIx_fu2, pIx_p0, pIx_p1, gT_fu, pEq_fu, pNe_fu, pEq_str, pNe_str, pLt_str, pGt_str, pIn_fl, pIn_ft, pNotIn_fl, pNotIn_ft, pIn_sl, pIn_st, pNotIn_sl, pNotIn_st, pIn_s2, pIx_dS, pIn_dS, pNotIn_dS, pSetK_dS, pLen_dS, pIx_dF, pIn_dF, pNotIn_dF, pSetT_dF, pLen_dF, List.length_map, slD_fu, slD_t, slD_l, slD_s, truD_i, truD_b, truD_n, truD_l, truD_t, revDt_l, revDt_t, fuD_eq, itemsS_t, itemsS_l, seqD_l, seqD_t, seqD_s]; exact ⟨rngOk_of (by omega) (by omega), hR⟩
    · rintro j _ hj ⟨o2, o9, o10, o11, o12, rfl⟩
      simp only [sCells, sAsg, sSeq, sIf, sSet, sRet, sRetN, sNext, sBoxPut, sPar, setAll, sExprM, mMeth, tyD, tBool, tTru, tAndM, tOrM, tNotM, m1, m2, mN, mV, mC, mCall, mBoxI, aNil, aCons, mIf, mTup, mLst, mLk, hasD, mAndV, mOrV, pNotB, aSeq, itemsS, aRng1, aRng2, aRng3, gN, gsNil, gsCons, gSt, pSetL, pLenB, isD, pSl, pSlL, oNone, oSome, pEq_int, pNe_int, pLt_int, pGt_int, pLe_int, pGe_int, mChain, aEnum, aZip, mCount, List.set_cons_zero, List.set_cons_succ, List.getElem?_cons_zero, List.getElem?_cons_succ, List.length_cons, List.length_nil, if_true, if_false, Bool.false_eq_true, true_and, and_true, decide_eq_true_eq, wipeD, tTrue, List.map_cons, List.map_nil, natD, at20, at21, at30, at31, at32, Option.some.injEq, exists_eq_left', gT_t, pAddE_i, pAddE_s, pAddE_l, pAddE_t, pAdd_i, pAddL_l, pSub_i, pMod_i, pFdiv_i, pNeg_i, pTupOf_l, pListOf_l, pListOf_t, pMin_i, pMax_i, pIs_n, pIs_b, pIsNot_n, pIsNot_b, pInt1_i, pAbs_i, qAppend_l, qExtend_l, qExtend_t, pSum_i, pAny_b, pAll_b, pRev, pRevL, pSl, pIx_t, pIx_l, pLen_map, pLen_mapT, pLen_net, pLen_t, pLen_l, pLen_s, pIn_ss, pNotIn_ss, pIn_s3, pIx_s, pIx_fu0, pIx_fu1, pIx_fu2, pIx_p0, pIx_p1, gT_fu, pEq_fu, pNe_fu, pEq_str, pNe_str, pLt_str, pGt_str, pIn_fl, pIn_ft, pNotIn_fl, pNotIn_ft, pIn_sl, pIn_st, pNotIn_sl, pNotIn_st, pIn_s2, pIx_dS, pIn_dS, pNotIn_dS, pSetK_dS, pLen_dS, pIx_dF, pIn_dF, pNotIn_dF, pSetT_dF, pLen_dF, List.length_map, slD_fu, slD_t, slD_l, slD_s, truD_i, truD_b, truD_n, truD_l, truD_t, revDt_l, revDt_t, fuD_eq, itemsS_t, itemsS_l, seqD_l, seqD_t, seqD_s, fDraw]
      refine ⟨rows.length, rfl, by omega, by omega, fun d hd0 hd1 => ?_⟩
      obtain ⟨d, rfl⟩ := Int.eq_ofNat_of_zero_le hd0
      have hd : d < rows.length := by omega
      refine ⟨netD rows[d], by rw [atD_nat (by omega), Int.toNat_natCast, List.getElem?_map, List.getElem?_eq_getElem hd]; rfl, ?_⟩
      have hcut : rows[d].length ≤ 9 := by
        have hm : rows[d] ∈ allC (freeF net L mom) many := by rw [hrows]; exact List.getElem_mem hd
        obtain ⟨n, _, hr⟩ := List.mem_flatMap.mp hm
        exact Nat.le_trans ((comb_mem _ _ _).mp hr).1.length_le hfl
      generalize rows[d] = cut at hcut ⊢
      simp only [q_saved_length]
      refine ⟨net, L, cut, rfl, hN, hL, ?_⟩
      simp only [sCells, sAsg, sSeq, sIf, sSet, sRet, sRetN, sNext, sBoxPut, sPar, setAll, sExprM, mMeth, tyD, tBool, tTru, tAndM, tOrM, tNotM, m1, m2, mN, mV, mC, mCall, mBoxI, aNil, aCons, mIf, mTup, mLst, mLk, hasD, mAndV, mOrV, pNotB, aSeq, itemsS, aRng1, aRng2, aRng3, gN, gsNil, gsCons, gSt, pSetL, pLenB, isD, pSl, pSlL, oNone, oSome, pEq_int, pNe_int, pLt_int, pGt_int, pLe_int, pGe_int, mChain, aEnum, aZip, mCount, List.set_cons_zero, List.set_cons_succ, List.getElem?_cons_zero, List.getElem?_cons_succ, List.length_cons, List.length_nil, if_true, if_false, Bool.false_eq_true, true_and, and_true, decide_eq_true_eq, wipeD, tTrue, List.map_cons, List.map_nil, natD, at20, at21, at30, at31, at32, Option.some.injEq, exists_eq_left', gT_t, pAddE_i, pAddE_s, pAddE_l, pAddE_t, pAdd_i, pAddL_l, pSub_i, pMod_i, pFdiv_i, pNeg_i, pTupOf_l, pListOf_l, pListOf_t, pMin_i, pMax_i, pIs_n, pIs_b, pIsNot_n, pIsNot_b, pInt1_i, pAbs_i, qAppend_l, qExtend_l, qExtend_t, pSum_i, pAny_b, pAll_b, pRev, pRevL, pSl, pIx_t, pIx_l, pLen_map, pLen_mapT, pLen_net, pLen_t, pLen_l, pLen_s, pIn_ss, pNotIn_ss, pIn_s3, pIx_s, pIx_fu0, pIx_fu1, pIx_fu2, pIx_p0, pIx_p1, gT_fu, pEq_fu, pNe_fu, pEq_str, pNe_str, pLt_str, pGt_str, pIn_fl, pIn_ft, pNotIn_fl, pNotIn_ft, pIn_sl, pIn_st, pNotIn_sl, pNotIn_st, pIn_s2, pIx_dS, pIn_dS, pNotIn_dS, pSetK_dS, pLen_dS, pIx_dF, pIn_dF, pNotIn_dF, pSetT_dF, pLen_dF, List.length_map, slD_fu, slD_t, slD_l, slD_s, truD_i, truD_b, truD_n, truD_l, truD_t, revDt_l, revDt_t, fuD_eq, itemsS_t, itemsS_l, seqD_l, seqD_t, seqD_s, q__law_saved, q_saved_length]
      refine ⟨net, L, cut, rfl, hN, hL, ?_⟩
      refine same_int rfl ?_
      simp only [mLc, sCells, sAsg, sSeq, sIf, sSet, sRet, sRetN, sNext, sBoxPut, sPar, setAll, sExprM, mMeth, tyD, tBool, tTru, tAndM, tOrM, tNotM, m1, m2, mN, mV, mC, mCall, mBoxI, aNil, aCons, mIf, mTup, mLst, mLk, hasD, mAndV, mOrV, pNotB, aSeq, itemsS, aRng1, aRng2, aRng3, gN, gsNil, gsCons, gSt, pSetL, pLenB, isD, pSl, pSlL, oNone, oSome, pEq_int, pNe_int, pLt_int, pGt_int, pLe_int, pGe_int, mChain, aEnum, aZip, mCount, List.set_cons_zero, List.set_cons_succ, List.getElem?_cons_zero, List.getElem?_cons_succ, List.length_cons, List.length_nil, if_true, if_false, Bool.false_eq_true, true_and, and_true, decide_eq_true_eq, wipeD, tTrue, List.map_cons, List.map_nil, natD, at20, at21, at30, at31, at32, Option.some.injEq, exists_eq_left', gT_t, pAddE_i, pAddE_s, pAddE_l, pAddE_t, pAdd_i, pAddL_l, pSub_i, pMod_i, pFdiv_i, pNeg_i, pTupOf_l, pListOf_l, pListOf_t, pMin_i, pMax_i, pIs_n, pIs_b, pIsNot_n, pIsNot_b, pInt1_i, pAbs_i, qAppend_l, qExtend_l, qExtend_t, pSum_i, pAny_b, pAll_b, pRev, pRevL, pSl, pIx_t, pIx_l, pLen_map, pLen_mapT, pLen_net, pLen_t, pLen_l, pLen_s, pIn_ss, pNotIn_ss, pIn_s3, pIx_s, pIx_fu0, pIx_fu1, pIx_fu2, pIx_p0, pIx_p1, gT_fu, pEq_fu, pNe_fu, pEq_str, pNe_str, pLt_str, pGt_str, pIn_fl, pIn_ft, pNotIn_fl, pNotIn_ft, pIn_sl, pIn_st, pNotIn_sl, pNotIn_st, pIn_s2, pIx_dS, pIn_dS, pNotIn_dS, pSetK_dS, pLen_dS, pIx_dF, pIn_dF, pNotIn_dF, pSetT_dF, pLen_dF, List.length_map, slD_fu, slD_t, slD_l, slD_s, truD_i, truD_b, truD_n, truD_l, truD_t, revDt_l, revDt_t, fuD_eq, itemsS_t, itemsS_l, seqD_l, seqD_t, seqD_s, fDraw]
      refine ⟨net.length, rfl, by omega, by omega, fun g hg0 hg1 => ?_⟩
      obtain ⟨g, rfl⟩ := Int.eq_ofNat_of_zero_le hg0
      have hgl : g < net.length := by omega
      refine ⟨fuD net[g], by rw [atD_nat (by omega), Int.toNat_natCast, List.getElem?_map, List.getElem?_eq_getElem hgl]; rfl, by decide, ?_⟩
      generalize net[g] = gf
      have hcz : cut.length ≤ 9 := hcut
      refine ⟨by rw [sizeLine_eq]; omega, fun _ => ?_⟩
      rw [show cut.map fuD ++ [fuD gf] = (cut ++ [gf]).map fuD by rw [List.map_append]; rfl]
      refine mLcD_map (cut ++ [gf]) fuD (fun f => .tuple [fuD f, .int 1]) (by rw [sizeLine_eq, List.length_append]; simp; omega) (fun f hf P N hp => ?_) ?_
      · simp only [sCells, sAsg, sSeq, sIf, sSet, sRet, sRetN, sNext, sBoxPut, sPar, setAll, sExprM, mMeth, tyD, tBool, tTru, tAndM, tOrM, tNotM, m1, m2, mN, mV, mC, mCall, mBoxI, aNil, aCons, mIf, mTup, mLst, mLk, hasD, mAndV, mOrV, pNotB, aSeq, itemsS, aRng1, aRng2, aRng3, gN, gsNil, gsCons, gSt, pSetL, pLenB, isD, pSl, pSlL, oNone, oSome, pEq_int, pNe_int, pLt_int, pGt_int, pLe_int, pGe_int, mChain, aEnum, aZip, mCount, List.set_cons_zero, List.set_cons_succ, List.getElem?_cons_zero, List.getElem?_cons_succ, List.length_cons, List.length_nil, if_true, if_false, Bool.false_eq_true, true_and, and_true, decide_eq_true_eq, wipeD, tTrue, List.map_cons, List.map_nil, natD, at20, at21, at30, at31, at32, Option.some.injEq, exists_eq_left', gT_t, pAddE_i, pAddE_s, pAddE_l, pAddE_t, pAdd_i, pAddL_l, pSub_i, pMod_i, pFdiv_i, pNeg_i, pTupOf_l, pListOf_l, pListOf_t, pMin_i, pMax_i, pIs_n, pIs_b, pIsNot_n, pIsNot_b, pInt1_i, pAbs_i, qAppend_l, qExtend_l, qExtend_t, pSum_i, pAny_b, pAll_b, pRev, pRevL, pSl, pIx_t, pIx_l, pLen_map, pLen_mapT, pLen_net, pLen_t, pLen_l, pLen_s, pIn_ss, pNotIn_ss, pIn_s3, pIx_s, pIx_fu0, pIx_fu1, pIx_fu2, pIx_p0, pIx_p1, gT_fu, pEq_fu, pNe_fu, pEq_str, pNe_str, pLt_str, pGt_str, pIn_fl, pIn_ft, pNotIn_fl, pNotIn_ft, pIn_sl, pIn_st, pNotIn_sl, pNotIn_st, pIn_s2, pIx_dS, pIn_dS, pNotIn_dS, pSetK_dS, pLen_dS, pIx_dF, pIn_dF, pNotIn_dF, pSetT_dF, pLen_dF, List.length_map, slD_fu, slD_t, slD_l, slD_s, truD_i, truD_b, truD_n, truD_l, truD_t, revDt_l, revDt_t, fuD_eq, itemsS_t, itemsS_l, seqD_l, seqD_t, seqD_s]; exact ⟨by decide, hp⟩
      rw [show ((cut ++ [gf]).map fun f => PyData.tuple [fuD f, .int 1]) = ((cut ++ [gf]).map fun f => (f, (1 : Int))).map fun p => .tuple [fuD p.1, .int p.2] by rw [List.map_map]; rfl]
      refine pDictPT_l PyData.int _ (pSorted_dF .int _ ?_)
      obtain ⟨mnd, mm⟩ := amerge_gen ((cut ++ [gf]).map fun f => (f, (1 : Int))) [] List.nodup_nil
      have hmem : ∀ f, f ∈ srt ((amergeF [] ((cut ++ [gf]).map fun f => (f, (1 : Int)))).map (·.1)) ↔ f ∈ cut ∨ f = gf := fun f => by
        rw [srt_mem]
        refine (mm f).trans ?_
        rw [List.map_map]
        simp
      generalize srt ((amergeF [] ((cut ++ [gf]).map fun f => (f, (1 : Int)))).map (·.1)) = more at hmem ⊢
      simp only [sCells, sAsg, sSeq, sIf, sSet, sRet, sRetN, sNext, sBoxPut, sPar, setAll, sExprM, mMeth, tyD, tBool, tTru, tAndM, tOrM, tNotM, m1, m2, mN, mV, mC, mCall, mBoxI, aNil, aCons, mIf, mTup, mLst, mLk, hasD, mAndV, mOrV, pNotB, aSeq, itemsS, aRng1, aRng2, aRng3, gN, gsNil, gsCons, gSt, pSetL, pLenB, isD, pSl, pSlL, oNone, oSome, pEq_int, pNe_int, pLt_int, pGt_int, pLe_int, pGe_int, mChain, aEnum, aZip, mCount, List.set_cons_zero, List.set_cons_succ, List.getElem?_cons_zero, List.getElem?_cons_succ, List.length_cons, List.length_nil, if_true, if_false, Bool.false_eq_true, true_and, and_true, decide_eq_true_eq, wipeD, tTrue, List.map_cons, List.map_nil, natD, at20, at21, at30, at31, at32, Option.some.injEq, exists_eq_left', gT_t, pAddE_i, pAddE_s, pAddE_l, pAddE_t, pAdd_i, pAddL_l, pSub_i, pMod_i, pFdiv_i, pNeg_i, pTupOf_l, pListOf_l, pListOf_t, pMin_i, pMax_i, pIs_n, pIs_b, pIsNot_n, pIsNot_b, pInt1_i, pAbs_i, qAppend_l, qExtend_l, qExtend_t, pSum_i, pAny_b, pAll_b, pRev, pRevL, pSl, pIx_t, pIx_l, pLen_map, pLen_mapT, pLen_net, pLen_t, pLen_l, pLen_s, pIn_ss, pNotIn_ss, pIn_s3, pIx_s, pIx_fu0, pIx_fu1, pIx_fu2, pIx_p0, pIx_p1, gT_fu, pEq_fu, pNe_fu, pEq_str, pNe_str, pLt_str, pGt_str, pIn_fl, pIn_ft, pNotIn_fl, pNotIn_ft, pIn_sl, pIn_st, pNotIn_sl, pNotIn_st, pIn_s2, pIx_dS, pIn_dS, pNotIn_dS, pSetK_dS, pLen_dS, pIx_dF, pIn_dF, pNotIn_dF, pSetT_dF, pLen_dF, List.length_map, slD_fu, slD_t, slD_l, slD_s, truD_i, truD_b, truD_n, truD_l, truD_t, revDt_l, revDt_t, fuD_eq, itemsS_t, itemsS_l, seqD_l, seqD_t, seqD_s, q_saved_length]
      refine ⟨net, L, more, rfl, hN, hL, ?_⟩
      have hmono : sav net L cut ≤ sav net L more := sav_mono hN hL fun f hf => (hmem f).mpr (.inl hf)
      try simp only [sCells, sAsg, sSeq, sIf, sSet, sRet, sRetN, sNext, sBoxPut, sPar, setAll, sExprM, mMeth, tyD, tBool, tTru, tAndM, tOrM, tNotM, m1, m2, mN, mV, mC, mCall, mBoxI, aNil, aCons, mIf, mTup, mLst, mLk, hasD, mAndV, mOrV, pNotB, aSeq, itemsS, aRng1, aRng2, aRng3, gN, gsNil, gsCons, gSt, pSetL, pLenB, isD, pSl, pSlL, oNone, oSome, pEq_int, pNe_int, pLt_int, pGt_int, pLe_int, pGe_int, mChain, aEnum, aZip, mCount, List.set_cons_zero, List.set_cons_succ, List.getElem?_cons_zero, List.getElem?_cons_succ, List.length_cons, List.length_nil, if_true, if_false, Bool.false_eq_true, true_and, and_true, decide_eq_true_eq, wipeD, tTrue, List.map_cons, List.map_nil, natD, at20, at21, at30, at31, at32, Option.some.injEq, exists_eq_left', gT_t, pAddE_i, pAddE_s, pAddE_l, pAddE_t, pAdd_i, pAddL_l, pSub_i, pMod_i, pFdiv_i, pNeg_i, pTupOf_l, pListOf_l, pListOf_t, pMin_i, pMax_i, pIs_n, pIs_b, pIsNot_n, pIsNot_b, pInt1_i, pAbs_i, qAppend_l, qExtend_l, qExtend_t, pSum_i, pAny_b, pAll_b, pRev, pRevL, pSl, pIx_t, pIx_l, pLen_map, pLen_mapT, pLen_net, pLen_t, pLen_l, pLen_s, pIn_ss, pNotIn_ss, pIn_s3, pIx_s, pIx_fu0, pIx_fu1, pIx_fu2, pIx_p0, pIx_p1, gT_fu, pEq_fu, pNe_fu, pEq_str, pNe_str, pLt_str, pGt_str, pIn_fl, pIn_ft, pNotIn_fl, pNotIn_ft, pIn_sl, pIn_st, pNotIn_sl, pNotIn_st, pIn_s2, pIx_dS, pIn_dS, pNotIn_dS, pSetK_dS, pLen_dS, pIx_dF, pIn_dF, pNotIn_dF, pSetT_dF, pLen_dF, List.length_map, slD_fu, slD_t, slD_l, slD_s, truD_i, truD_b, truD_n, truD_l, truD_t, revDt_l, revDt_t, fuD_eq, itemsS_t, itemsS_l, seqD_l, seqD_t, seqD_s]
      rw [if_neg (by omega)]
      refine ⟨net, L, net, rfl, hN, hL, fun _ => ?_⟩
      refine mLcD_map net fuD (fun f => .int f.c) (by rw [sizeLine_eq]; omega) (fun f hf P N hp => ?_) ?_
      · simp only [sCells, sAsg, sSeq, sIf, sSet, sRet, sRetN, sNext, sBoxPut, sPar, setAll, sExprM, mMeth, tyD, tBool, tTru, tAndM, tOrM, tNotM, m1, m2, mN, mV, mC, mCall, mBoxI, aNil, aCons, mIf, mTup, mLst, mLk, hasD, mAndV, mOrV, pNotB, aSeq, itemsS, aRng1, aRng2, aRng3, gN, gsNil, gsCons, gSt, pSetL, pLenB, isD, pSl, pSlL, oNone, oSome, pEq_int, pNe_int, pLt_int, pGt_int, pLe_int, pGe_int, mChain, aEnum, aZip, mCount, List.set_cons_zero, List.set_cons_succ, List.getElem?_cons_zero, List.getElem?_cons_succ, List.length_cons, List.length_nil, if_true, if_false, Bool.false_eq_true, true_and, and_true, decide_eq_true_eq, wipeD, tTrue, List.map_cons, List.map_nil, natD, at20, at21, at30, at31, at32, Option.some.injEq, exists_eq_left', gT_t, pAddE_i, pAddE_s, pAddE_l, pAddE_t, pAdd_i, pAddL_l, pSub_i, pMod_i, pFdiv_i, pNeg_i, pTupOf_l, pListOf_l, pListOf_t, pMin_i, pMax_i, pIs_n, pIs_b, pIsNot_n, pIsNot_b, pInt1_i, pAbs_i, qAppend_l, qExtend_l, qExtend_t, pSum_i, pAny_b, pAll_b, pRev, pRevL, pSl, pIx_t, pIx_l, pLen_map, pLen_mapT, pLen_net, pLen_t, pLen_l, pLen_s, pIn_ss, pNotIn_ss, pIn_s3, pIx_s, pIx_fu0, pIx_fu1, pIx_fu2, pIx_p0, pIx_p1, gT_fu, pEq_fu, pNe_fu, pEq_str, pNe_str, pLt_str, pGt_str, pIn_fl, pIn_ft, pNotIn_fl, pNotIn_ft, pIn_sl, pIn_st, pNotIn_sl, pNotIn_st, pIn_s2, pIx_dS, pIn_dS, pNotIn_dS, pSetK_dS, pLen_dS, pIx_dF, pIn_dF, pNotIn_dF, pSetT_dF, pLen_dF, List.length_map, slD_fu, slD_t, slD_l, slD_s, truD_i, truD_b, truD_n, truD_l, truD_t, revDt_l, revDt_t, fuD_eq, itemsS_t, itemsS_l, seqD_l, seqD_t, seqD_s]; exact hp
      · rw [show (net.map fun f => PyData.int f.c) = (net.map (·.c)).map .int by rw [List.map_map]; rfl]
        simp only [sCells, sAsg, sSeq, sIf, sSet, sRet, sRetN, sNext, sBoxPut, sPar, setAll, sExprM, mMeth, tyD, tBool, tTru, tAndM, tOrM, tNotM, m1, m2, mN, mV, mC, mCall, mBoxI, aNil, aCons, mIf, mTup, mLst, mLk, hasD, mAndV, mOrV, pNotB, aSeq, itemsS, aRng1, aRng2, aRng3, gN, gsNil, gsCons, gSt, pSetL, pLenB, isD, pSl, pSlL, oNone, oSome, pEq_int, pNe_int, pLt_int, pGt_int, pLe_int, pGe_int, mChain, aEnum, aZip, mCount, List.set_cons_zero, List.set_cons_succ, List.getElem?_cons_zero, List.getElem?_cons_succ, List.length_cons, List.length_nil, if_true, if_false, Bool.false_eq_true, true_and, and_true, decide_eq_true_eq, wipeD, tTrue, List.map_cons, List.map_nil, natD, at20, at21, at30, at31, at32, Option.some.injEq, exists_eq_left', gT_t, pAddE_i, pAddE_s, pAddE_l, pAddE_t, pAdd_i, pAddL_l, pSub_i, pMod_i, pFdiv_i, pNeg_i, pTupOf_l, pListOf_l, pListOf_t, pMin_i, pMax_i, pIs_n, pIs_b, pIsNot_n, pIsNot_b, pInt1_i, pAbs_i, qAppend_l, qExtend_l, qExtend_t, pSum_i, pAny_b, pAll_b, pRev, pRevL, pSl, pIx_t, pIx_l, pLen_map, pLen_mapT, pLen_net, pLen_t, pLen_l, pLen_s, pIn_ss, pNotIn_ss, pIn_s3, pIx_s, pIx_fu0, pIx_fu1, pIx_fu2, pIx_p0, pIx_p1, gT_fu, pEq_fu, pNe_fu, pEq_str, pNe_str, pLt_str, pGt_str, pIn_fl, pIn_ft, pNotIn_fl, pNotIn_ft, pIn_sl, pIn_st, pNotIn_sl, pNotIn_st, pIn_s2, pIx_dS, pIn_dS, pNotIn_dS, pSetK_dS, pLen_dS, pIx_dF, pIn_dF, pNotIn_dF, pSetT_dF, pLen_dF, List.length_map, slD_fu, slD_t, slD_l, slD_s, truD_i, truD_b, truD_n, truD_l, truD_t, revDt_l, revDt_t, fuD_eq, itemsS_t, itemsS_l, seqD_l, seqD_t, seqD_s, sav_all]
        exact ⟨_, _, _, _, _, rfl⟩
    · rintro _ ⟨o2, o9, o10, o11, o12, rfl⟩
      simp only [sCells, sAsg, sSeq, sIf, sSet, sRet, sRetN, sNext, sBoxPut, sPar, setAll, sExprM, mMeth, tyD, tBool, tTru, tAndM, tOrM, tNotM, m1, m2, mN, mV, mC, mCall, mBoxI, aNil, aCons, mIf, mTup, mLst, mLk, hasD, mAndV, mOrV, pNotB, aSeq, itemsS, aRng1, aRng2, aRng3, gN, gsNil, gsCons, gSt, pSetL, pLenB, isD, pSl, pSlL, oNone, oSome, pEq_int, pNe_int, pLt_int, pGt_int, pLe_int, pGe_int, mChain, aEnum, aZip, mCount, List.set_cons_zero, List.set_cons_succ, List.getElem?_cons_zero, List.getElem?_cons_succ, List.length_cons, List.length_nil, if_true, if_false, Bool.false_eq_true, true_and, and_true, decide_eq_true_eq, wipeD, tTrue, List.map_cons, List.map_nil, natD, at20, at21, at30, at31, at32, Option.some.injEq, exists_eq_left', gT_t, pAddE_i, pAddE_s, pAddE_l, pAddE_t, pAdd_i, pAddL_l, pSub_i, pMod_i, pFdiv_i, pNeg_i, pTupOf_l, pListOf_l, pListOf_t, pMin_i, pMax_i, pIs_n, pIs_b, pIsNot_n, pIsNot_b, pInt1_i, pAbs_i, qAppend_l, qExtend_l, qExtend_t, pSum_i, pAny_b, pAll_b, pRev, pRevL, pSl, pIx_t, pIx_l, pLen_map, pLen_mapT, pLen_net, pLen_t, pLen_l, pLen_s, pIn_ss, pNotIn_ss, pIn_s3, pIx_s, pIx_fu0, pIx_fu1, pIx_fu2, pIx_p0, pIx_p1, gT_fu, pEq_fu, pNe_fu, pEq_str, pNe_str, pLt_str, pGt_str, pIn_fl, pIn_ft, pNotIn_fl, pNotIn_ft, pIn_sl, pIn_st, pNotIn_sl, pNotIn_st, pIn_s2, pIx_dS, pIn_dS, pNotIn_dS, pSetK_dS, pLen_dS, pIx_dF, pIn_dF, pNotIn_dF, pSetT_dF, pLen_dF, List.length_map, slD_fu, slD_t, slD_l, slD_s, truD_i, truD_b, truD_n, truD_l, truD_t, revDt_l, revDt_t, fuD_eq, itemsS_t, itemsS_l, seqD_l, seqD_t, seqD_s, mLc]
      intro hrz'
      obtain ⟨z, hz1, hz2, hz3, hz4⟩ := bestOf_is (sav net L) hrn
      refine mLcD_map rows netD (fun r => .int (sav net L r)) (by rw [sizeLine_eq]; exact hrz) (fun r hr P N hp => ?_) ?_
      · simp only [sCells, sAsg, sSeq, sIf, sSet, sRet, sRetN, sNext, sBoxPut, sPar, setAll, sExprM, mMeth, tyD, tBool, tTru, tAndM, tOrM, tNotM, m1, m2, mN, mV, mC, mCall, mBoxI, aNil, aCons, mIf, mTup, mLst, mLk, hasD, mAndV, mOrV, pNotB, aSeq, itemsS, aRng1, aRng2, aRng3, gN, gsNil, gsCons, gSt, pSetL, pLenB, isD, pSl, pSlL, oNone, oSome, pEq_int, pNe_int, pLt_int, pGt_int, pLe_int, pGe_int, mChain, aEnum, aZip, mCount, List.set_cons_zero, List.set_cons_succ, List.getElem?_cons_zero, List.getElem?_cons_succ, List.length_cons, List.length_nil, if_true, if_false, Bool.false_eq_true, true_and, and_true, decide_eq_true_eq, wipeD, tTrue, List.map_cons, List.map_nil, natD, at20, at21, at30, at31, at32, Option.some.injEq, exists_eq_left', gT_t, pAddE_i, pAddE_s, pAddE_l, pAddE_t, pAdd_i, pAddL_l, pSub_i, pMod_i, pFdiv_i, pNeg_i, pTupOf_l, pListOf_l, pListOf_t, pMin_i, pMax_i, pIs_n, pIs_b, pIsNot_n, pIsNot_b, pInt1_i, pAbs_i, qAppend_l, qExtend_l, qExtend_t, pSum_i, pAny_b, pAll_b, pRev, pRevL, pSl, pIx_t, pIx_l, pLen_map, pLen_mapT, pLen_net, pLen_t, pLen_l, pLen_s, pIn_ss, pNotIn_ss, pIn_s3, pIx_s, pIx_fu0, pIx_fu1, pIx_fu2, pIx_p0, pIx_p1, gT_fu, pEq_fu, pNe_fu, pEq_str, pNe_str, pLt_str, pGt_str, pIn_fl, pIn_ft, pNotIn_fl, pNotIn_ft, pIn_sl, pIn_st, pNotIn_sl, pNotIn_st, pIn_s2, pIx_dS, pIn_dS, pNotIn_dS, pSetK_dS, pLen_dS, pIx_dF, pIn_dF, pNotIn_dF, pSetT_dF, pLen_dF, List.length_map, slD_fu, slD_t, slD_l, slD_s, truD_i, truD_b, truD_n, truD_l, truD_t, revDt_l, revDt_t, fuD_eq, itemsS_t, itemsS_l, seqD_l, seqD_t, seqD_s, q__law_saved, q_saved_length]
        exact ⟨net, L, r, rfl, hN, hL, hp⟩
      rw [show (rows.map fun r => PyData.int (sav net L r)) = (rows.map (sav net L)).map (Datum.toD (α := Int)) by rw [List.map_map]; rfl]
      refine pMax_list (by decide) (by simpa using hrn) fun m hm => ?_
      obtain rfl := isMax_best hm hz2 hz3
      show _
      simp only [show ∀ i : Int, Datum.toD i = PyData.int i from fun _ => rfl]
      simp only [sCells, sAsg, sSeq, sIf, sSet, sRet, sRetN, sNext, sBoxPut, sPar, setAll, sExprM, mMeth, tyD, tBool, tTru, tAndM, tOrM, tNotM, m1, m2, mN, mV, mC, mCall, mBoxI, aNil, aCons, mIf, mTup, mLst, mLk, hasD, mAndV, mOrV, pNotB, aSeq, itemsS, aRng1, aRng2, aRng3, gN, gsNil, gsCons, gSt, pSetL, pLenB, isD, pSl, pSlL, oNone, oSome, pEq_int, pNe_int, pLt_int, pGt_int, pLe_int, pGe_int, mChain, aEnum, aZip, mCount, List.set_cons_zero, List.set_cons_succ, List.getElem?_cons_zero, List.getElem?_cons_succ, List.length_cons, List.length_nil, if_true, if_false, Bool.false_eq_true, true_and, and_true, decide_eq_true_eq, wipeD, tTrue, List.map_cons, List.map_nil, natD, at20, at21, at30, at31, at32, Option.some.injEq, exists_eq_left', gT_t, pAddE_i, pAddE_s, pAddE_l, pAddE_t, pAdd_i, pAddL_l, pSub_i, pMod_i, pFdiv_i, pNeg_i, pTupOf_l, pListOf_l, pListOf_t, pMin_i, pMax_i, pIs_n, pIs_b, pIsNot_n, pIsNot_b, pInt1_i, pAbs_i, qAppend_l, qExtend_l, qExtend_t, pSum_i, pAny_b, pAll_b, pRev, pRevL, pSl, pIx_t, pIx_l, pLen_map, pLen_mapT, pLen_net, pLen_t, pLen_l, pLen_s, pIn_ss, pNotIn_ss, pIn_s3, pIx_s, pIx_fu0, pIx_fu1, pIx_fu2, pIx_p0, pIx_p1, gT_fu, pEq_fu, pNe_fu, pEq_str, pNe_str, pLt_str, pGt_str, pIn_fl, pIn_ft, pNotIn_fl, pNotIn_ft, pIn_sl, pIn_st, pNotIn_sl, pNotIn_st, pIn_s2, pIx_dS, pIn_dS, pNotIn_dS, pSetK_dS, pLen_dS, pIx_dF, pIn_dF, pNotIn_dF, pSetT_dF, pLen_dF, List.length_map, slD_fu, slD_t, slD_l, slD_s, truD_i, truD_b, truD_n, truD_l, truD_t, revDt_l, revDt_t, fuD_eq, itemsS_t, itemsS_l, seqD_l, seqD_t, seqD_s, q_best_cuts]
      refine ⟨net, L, mom, many, rfl, hN, hL, by omega, by omega, fun s cut hc => ?_⟩
      have hce : cut = z := by
        unfold bestC at hc
        rw [hrows, hz1] at hc
        cases hc; rfl
      subst hce
      intro _
      refine mLcD_filter rows netD netD (fun r => decide (sav net L r = sav net L cut)) (by rw [sizeLine_eq]; exact hrz) (fun r hr P N hp hn => ?_) ?_
      · simp only [sCells, sAsg, sSeq, sIf, sSet, sRet, sRetN, sNext, sBoxPut, sPar, setAll, sExprM, mMeth, tyD, tBool, tTru, tAndM, tOrM, tNotM, m1, m2, mN, mV, mC, mCall, mBoxI, aNil, aCons, mIf, mTup, mLst, mLk, hasD, mAndV, mOrV, pNotB, aSeq, itemsS, aRng1, aRng2, aRng3, gN, gsNil, gsCons, gSt, pSetL, pLenB, isD, pSl, pSlL, oNone, oSome, pEq_int, pNe_int, pLt_int, pGt_int, pLe_int, pGe_int, mChain, aEnum, aZip, mCount, List.set_cons_zero, List.set_cons_succ, List.getElem?_cons_zero, List.getElem?_cons_succ, List.length_cons, List.length_nil, if_true, if_false, Bool.false_eq_true, true_and, and_true, decide_eq_true_eq, wipeD, tTrue, List.map_cons, List.map_nil, natD, at20, at21, at30, at31, at32, Option.some.injEq, exists_eq_left', gT_t, pAddE_i, pAddE_s, pAddE_l, pAddE_t, pAdd_i, pAddL_l, pSub_i, pMod_i, pFdiv_i, pNeg_i, pTupOf_l, pListOf_l, pListOf_t, pMin_i, pMax_i, pIs_n, pIs_b, pIsNot_n, pIsNot_b, pInt1_i, pAbs_i, qAppend_l, qExtend_l, qExtend_t, pSum_i, pAny_b, pAll_b, pRev, pRevL, pSl, pIx_t, pIx_l, pLen_map, pLen_mapT, pLen_net, pLen_t, pLen_l, pLen_s, pIn_ss, pNotIn_ss, pIn_s3, pIx_s, pIx_fu0, pIx_fu1, pIx_fu2, pIx_p0, pIx_p1, gT_fu, pEq_fu, pNe_fu, pEq_str, pNe_str, pLt_str, pGt_str, pIn_fl, pIn_ft, pNotIn_fl, pNotIn_ft, pIn_sl, pIn_st, pNotIn_sl, pNotIn_st, pIn_s2, pIx_dS, pIn_dS, pNotIn_dS, pSetK_dS, pLen_dS, pIx_dF, pIn_dF, pNotIn_dF, pSetT_dF, pLen_dF, List.length_map, slD_fu, slD_t, slD_l, slD_s, truD_i, truD_b, truD_n, truD_l, truD_t, revDt_l, revDt_t, fuD_eq, itemsS_t, itemsS_l, seqD_l, seqD_t, seqD_s, q__law_saved, q_saved_length]
        refine ⟨net, L, r, rfl, hN, hL, ?_⟩
        try simp only [sCells, sAsg, sSeq, sIf, sSet, sRet, sRetN, sNext, sBoxPut, sPar, setAll, sExprM, mMeth, tyD, tBool, tTru, tAndM, tOrM, tNotM, m1, m2, mN, mV, mC, mCall, mBoxI, aNil, aCons, mIf, mTup, mLst, mLk, hasD, mAndV, mOrV, pNotB, aSeq, itemsS, aRng1, aRng2, aRng3, gN, gsNil, gsCons, gSt, pSetL, pLenB, isD, pSl, pSlL, oNone, oSome, pEq_int, pNe_int, pLt_int, pGt_int, pLe_int, pGe_int, mChain, aEnum, aZip, mCount, List.set_cons_zero, List.set_cons_succ, List.getElem?_cons_zero, List.getElem?_cons_succ, List.length_cons, List.length_nil, if_true, if_false, Bool.false_eq_true, true_and, and_true, decide_eq_true_eq, wipeD, tTrue, List.map_cons, List.map_nil, natD, at20, at21, at30, at31, at32, Option.some.injEq, exists_eq_left', gT_t, pAddE_i, pAddE_s, pAddE_l, pAddE_t, pAdd_i, pAddL_l, pSub_i, pMod_i, pFdiv_i, pNeg_i, pTupOf_l, pListOf_l, pListOf_t, pMin_i, pMax_i, pIs_n, pIs_b, pIsNot_n, pIsNot_b, pInt1_i, pAbs_i, qAppend_l, qExtend_l, qExtend_t, pSum_i, pAny_b, pAll_b, pRev, pRevL, pSl, pIx_t, pIx_l, pLen_map, pLen_mapT, pLen_net, pLen_t, pLen_l, pLen_s, pIn_ss, pNotIn_ss, pIn_s3, pIx_s, pIx_fu0, pIx_fu1, pIx_fu2, pIx_p0, pIx_p1, gT_fu, pEq_fu, pNe_fu, pEq_str, pNe_str, pLt_str, pGt_str, pIn_fl, pIn_ft, pNotIn_fl, pNotIn_ft, pIn_sl, pIn_st, pNotIn_sl, pNotIn_st, pIn_s2, pIx_dS, pIn_dS, pNotIn_dS, pSetK_dS, pLen_dS, pIx_dF, pIn_dF, pNotIn_dF, pSetT_dF, pLen_dF, List.length_map, slD_fu, slD_t, slD_l, slD_s, truD_i, truD_b, truD_n, truD_l, truD_t, revDt_l, revDt_t, fuD_eq, itemsS_t, itemsS_l, seqD_l, seqD_t, seqD_s]
        by_cases c : sav net L r = sav net L cut
        · rw [if_pos c]; exact hp (decide_eq_true c)
        · rw [if_neg c]; exact hn (decide_eq_false c)
      · simp only [sCells, sAsg, sSeq, sIf, sSet, sRet, sRetN, sNext, sBoxPut, sPar, setAll, sExprM, mMeth, tyD, tBool, tTru, tAndM, tOrM, tNotM, m1, m2, mN, mV, mC, mCall, mBoxI, aNil, aCons, mIf, mTup, mLst, mLk, hasD, mAndV, mOrV, pNotB, aSeq, itemsS, aRng1, aRng2, aRng3, gN, gsNil, gsCons, gSt, pSetL, pLenB, isD, pSl, pSlL, oNone, oSome, pEq_int, pNe_int, pLt_int, pGt_int, pLe_int, pGe_int, mChain, aEnum, aZip, mCount, List.set_cons_zero, List.set_cons_succ, List.getElem?_cons_zero, List.getElem?_cons_succ, List.length_cons, List.length_nil, if_true, if_false, Bool.false_eq_true, true_and, and_true, decide_eq_true_eq, wipeD, tTrue, List.map_cons, List.map_nil, natD, at20, at21, at30, at31, at32, Option.some.injEq, exists_eq_left', gT_t, pAddE_i, pAddE_s, pAddE_l, pAddE_t, pAdd_i, pAddL_l, pSub_i, pMod_i, pFdiv_i, pNeg_i, pTupOf_l, pListOf_l, pListOf_t, pMin_i, pMax_i, pIs_n, pIs_b, pIsNot_n, pIsNot_b, pInt1_i, pAbs_i, qAppend_l, qExtend_l, qExtend_t, pSum_i, pAny_b, pAll_b, pRev, pRevL, pSl, pIx_t, pIx_l, pLen_map, pLen_mapT, pLen_net, pLen_t, pLen_l, pLen_s, pIn_ss, pNotIn_ss, pIn_s3, pIx_s, pIx_fu0, pIx_fu1, pIx_fu2, pIx_p0, pIx_p1, gT_fu, pEq_fu, pNe_fu, pEq_str, pNe_str, pLt_str, pGt_str, pIn_fl, pIn_ft, pNotIn_fl, pNotIn_ft, pIn_sl, pIn_st, pNotIn_sl, pNotIn_st, pIn_s2, pIx_dS, pIn_dS, pNotIn_dS, pSetK_dS, pLen_dS, pIx_dF, pIn_dF, pNotIn_dF, pSetT_dF, pLen_dF, List.length_map, slD_fu, slD_t, slD_l, slD_s, truD_i, truD_b, truD_n, truD_l, truD_t, revDt_l, revDt_t, fuD_eq, itemsS_t, itemsS_l, seqD_l, seqD_t, seqD_s]
        refine ⟨netD cut, by rw [atD_nat (by decide), List.getElem?_map, show (Int.toNat 0) = 0 from rfl, hz4]; rfl, ?_⟩
        refine same_net rfl ?_
        simp only [sCells, sAsg, sSeq, sIf, sSet, sRet, sRetN, sNext, sBoxPut, sPar, setAll, sExprM, mMeth, tyD, tBool, tTru, tAndM, tOrM, tNotM, m1, m2, mN, mV, mC, mCall, mBoxI, aNil, aCons, mIf, mTup, mLst, mLk, hasD, mAndV, mOrV, pNotB, aSeq, itemsS, aRng1, aRng2, aRng3, gN, gsNil, gsCons, gSt, pSetL, pLenB, isD, pSl, pSlL, oNone, oSome, pEq_int, pNe_int, pLt_int, pGt_int, pLe_int, pGe_int, mChain, aEnum, aZip, mCount, List.set_cons_zero, List.set_cons_succ, List.getElem?_cons_zero, List.getElem?_cons_succ, List.length_cons, List.length_nil, if_true, if_false, Bool.false_eq_true, true_and, and_true, decide_eq_true_eq, wipeD, tTrue, List.map_cons, List.map_nil, natD, at20, at21, at30, at31, at32, Option.some.injEq, exists_eq_left', gT_t, pAddE_i, pAddE_s, pAddE_l, pAddE_t, pAdd_i, pAddL_l, pSub_i, pMod_i, pFdiv_i, pNeg_i, pTupOf_l, pListOf_l, pListOf_t, pMin_i, pMax_i, pIs_n, pIs_b, pIsNot_n, pIsNot_b, pInt1_i, pAbs_i, qAppend_l, qExtend_l, qExtend_t, pSum_i, pAny_b, pAll_b, pRev, pRevL, pSl, pIx_t, pIx_l, pLen_map, pLen_mapT, pLen_net, pLen_t, pLen_l, pLen_s, pIn_ss, pNotIn_ss, pIn_s3, pIx_s, pIx_fu0, pIx_fu1, pIx_fu2, pIx_p0, pIx_p1, gT_fu, pEq_fu, pNe_fu, pEq_str, pNe_str, pLt_str, pGt_str, pIn_fl, pIn_ft, pNotIn_fl, pNotIn_ft, pIn_sl, pIn_st, pNotIn_sl, pNotIn_st, pIn_s2, pIx_dS, pIn_dS, pNotIn_dS, pSetK_dS, pLen_dS, pIx_dF, pIn_dF, pNotIn_dF, pSetT_dF, pLen_dF, List.length_map, slD_fu, slD_t, slD_l, slD_s, truD_i, truD_b, truD_n, truD_l, truD_t, revDt_l, revDt_t, fuD_eq, itemsS_t, itemsS_l, seqD_l, seqD_t, seqD_s]
        exact ⟨_, _, _, _, _, _, _, _, _, _, _, _, rfl⟩
  · rintro _ ⟨o2, o3, o4, o5, o6, o7, o8, o9, o10, o11, o12, o13, rfl⟩
    simp only [sCells, sAsg, sSeq, sIf, sSet, sRet, sRetN, sNext, sBoxPut, sPar, setAll, sExprM, mMeth, tyD, tBool, tTru, tAndM, tOrM, tNotM, m1, m2, mN, mV, mC, mCall, mBoxI, aNil, aCons, mIf, mTup, mLst, mLk, hasD, mAndV, mOrV, pNotB, aSeq, itemsS, aRng1, aRng2, aRng3, gN, gsNil, gsCons, gSt, pSetL, pLenB, isD, pSl, pSlL, oNone, oSome, pEq_int, pNe_int, pLt_int, pGt_int, pLe_int, pGe_int, mChain, aEnum, aZip, mCount, List.set_cons_zero, List.set_cons_succ, List.getElem?_cons_zero, List.getElem?_cons_succ, List.length_cons, List.length_nil, if_true, if_false, Bool.false_eq_true, true_and, and_true, decide_eq_true_eq, wipeD, tTrue, List.map_cons, List.map_nil, natD, at20, at21, at30, at31, at32, Option.some.injEq, exists_eq_left', gT_t, pAddE_i, pAddE_s, pAddE_l, pAddE_t, pAdd_i, pAddL_l, pSub_i, pMod_i, pFdiv_i, pNeg_i, pTupOf_l, pListOf_l, pListOf_t, pMin_i, pMax_i, pIs_n, pIs_b, pIsNot_n, pIsNot_b, pInt1_i, pAbs_i, qAppend_l, qExtend_l, qExtend_t, pSum_i, pAny_b, pAll_b, pRev, pRevL, pSl, pIx_t, pIx_l, pLen_map, pLen_mapT, pLen_net, pLen_t, pLen_l, pLen_s, pIn_ss, pNotIn_ss, pIn_s3, pIx_s, pIx_fu0, pIx_fu1, pIx_fu2, pIx_p0, pIx_p1, gT_fu, pEq_fu, pNe_fu, pEq_str, pNe_str, pLt_str, pGt_str, pIn_fl, pIn_ft, pNotIn_fl, pNotIn_ft, pIn_sl, pIn_st, pNotIn_sl, pNotIn_st, pIn_s2, pIx_dS, pIn_dS, pNotIn_dS, pSetK_dS, pLen_dS, pIx_dF, pIn_dF, pNotIn_dF, pSetT_dF, pLen_dF, List.length_map, slD_fu, slD_t, slD_l, slD_s, truD_i, truD_b, truD_n, truD_l, truD_t, revDt_l, revDt_t, fuD_eq, itemsS_t, itemsS_l, seqD_l, seqD_t, seqD_s]
    refine ⟨by decide, by decide, by decide, by decide, by decide, by decide, by decide, by decide, by decide, by decide, ?_⟩
    let net0 : List Fu := [⟨"a", "b", 2⟩, ⟨"a", "c", 3⟩, ⟨"b", "d", 2⟩, ⟨"c", "d", 4⟩]
    let L0 : List (Str × Int) := [("a", 0)]
    have hN0 : NetOk net0 := ⟨fun f hf => by simp only [net0, List.mem_cons, List.not_mem_nil, or_false] at hf; rcases hf with rfl | rfl | rfl | rfl <;> decide, by decide⟩
    have hL0 : LiOk L0 := ⟨by decide, fun p hp => by simp only [L0, List.mem_cons, List.not_mem_nil, or_false] at hp; subst hp; decide, by decide⟩
    simp only [q_saved_length]
    refine ⟨net0, L0, [⟨"b", "d", 2⟩, ⟨"c", "d", 4⟩], rfl, hN0, hL0, ?_⟩
    rw [show sav net0 L0 [⟨"b", "d", 2⟩, ⟨"c", "d", 4⟩] = 6 by decide +kernel]
    simp only [sCells, sAsg, sSeq, sIf, sSet, sRet, sRetN, sNext, sBoxPut, sPar, setAll, sExprM, mMeth, tyD, tBool, tTru, tAndM, tOrM, tNotM, m1, m2, mN, mV, mC, mCall, mBoxI, aNil, aCons, mIf, mTup, mLst, mLk, hasD, mAndV, mOrV, pNotB, aSeq, itemsS, aRng1, aRng2, aRng3, gN, gsNil, gsCons, gSt, pSetL, pLenB, isD, pSl, pSlL, oNone, oSome, pEq_int, pNe_int, pLt_int, pGt_int, pLe_int, pGe_int, mChain, aEnum, aZip, mCount, List.set_cons_zero, List.set_cons_succ, List.getElem?_cons_zero, List.getElem?_cons_succ, List.length_cons, List.length_nil, if_true, if_false, Bool.false_eq_true, true_and, and_true, decide_eq_true_eq, wipeD, tTrue, List.map_cons, List.map_nil, natD, at20, at21, at30, at31, at32, Option.some.injEq, exists_eq_left', gT_t, pAddE_i, pAddE_s, pAddE_l, pAddE_t, pAdd_i, pAddL_l, pSub_i, pMod_i, pFdiv_i, pNeg_i, pTupOf_l, pListOf_l, pListOf_t, pMin_i, pMax_i, pIs_n, pIs_b, pIsNot_n, pIsNot_b, pInt1_i, pAbs_i, qAppend_l, qExtend_l, qExtend_t, pSum_i, pAny_b, pAll_b, pRev, pRevL, pSl, pIx_t, pIx_l, pLen_map, pLen_mapT, pLen_net, pLen_t, pLen_l, pLen_s, pIn_ss, pNotIn_ss, pIn_s3, pIx_s, pIx_fu0, pIx_fu1, pIx_fu2, pIx_p0, pIx_p1, gT_fu, pEq_fu, pNe_fu, pEq_str, pNe_str, pLt_str, pGt_str, pIn_fl, pIn_ft, pNotIn_fl, pNotIn_ft, pIn_sl, pIn_st, pNotIn_sl, pNotIn_st, pIn_s2, pIx_dS, pIn_dS, pNotIn_dS, pSetK_dS, pLen_dS, pIx_dF, pIn_dF, pNotIn_dF, pSetT_dF, pLen_dF, List.length_map, slD_fu, slD_t, slD_l, slD_s, truD_i, truD_b, truD_n, truD_l, truD_t, revDt_l, revDt_t, fuD_eq, itemsS_t, itemsS_l, seqD_l, seqD_t, seqD_s, q_best_cuts]
    refine ⟨net0, L0, 0, 1, rfl, hN0, hL0, by decide, by decide, fun s cut hc => ⟨by decide, by decide, ?_⟩⟩
    have hb : (bestC net0 L0 0 1).map (·.2) = some [⟨"c", "d", 4⟩] := by decide +kernel
    rw [hc] at hb
    cases hb
    exact same_net (xs := [⟨"c", "d", 4⟩]) (ys := [⟨"c", "d", 4⟩]) rfl rfl
theorem all_mk {l : PySem.W.OpenLaw} {w : World} {K : PySem.W.Frag} {h : Heap} {mg : Str → Option Value} {fa : Addr} (X : K.In h) (G : h.Ns mainGlobals mg) (hfa : mg "law" = some (.ref fa)) {f_is_name : Addr} {od0 an0 : Option Addr} {sl0 : Array (Option Value)} {oc0 kV0 dc0 pm0 cd0 ct0 : Value} {f_is_number : Addr} {od1 an1 : Option Addr} {sl1 : Array (Option Value)} {oc1 kV1 dc1 pm1 cd1 ct1 : Value} {f_is_ascending : Addr} {od2 an2 : Option Addr} {sl2 : Array (Option Value)} {oc2 kV2 dc2 pm2 cd2 ct2 : Value} {f_fuses_at : Addr} {od3 an3 : Option Addr} {sl3 : Array (Option Value)} {oc3 kV3 dc3 pm3 cd3 ct3 : Value} {f_beyond : Addr} {od4 an4 : Option Addr} {sl4 : Array (Option Value)} {oc4 kV4 dc4 pm4 cd4 ct4 : Value} {f_net_without : Addr} {od5 an5 : Option Addr} {sl5 : Array (Option Value)} {oc5 kV5 dc5 pm5 cd5 ct5 : Value} {f_part_rows : Addr} {od6 an6 : Option Addr} {sl6 : Array (Option Value)} {oc6 kV6 dc6 pm6 cd6 ct6 : Value} {f__law_box : Addr} {od7 an7 : Option Addr} {sl7 : Array (Option Value)} {oc7 kV7 dc7 pm7 cd7 ct7 : Value} {f__law_load : Addr} {od8 an8 : Option Addr} {sl8 : Array (Option Value)} {oc8 kV8 dc8 pm8 cd8 ct8 : Value} {f__law_knots : Addr} {od9 an9 : Option Addr} {sl9 : Array (Option Value)} {oc9 kV9 dc9 pm9 cd9 ct9 : Value} {f__law_times : Addr} {od10 an10 : Option Addr} {sl10 : Array (Option Value)} {oc10 kV10 dc10 pm10 cd10 ct10 : Value} {f__law_rest : Addr} {od11 an11 : Option Addr} {sl11 : Array (Option Value)} {oc11 kV11 dc11 pm11 cd11 ct11 : Value} {f__law_sets : Addr} {od12 an12 : Option Addr} {sl12 : Array (Option Value)} {oc12 kV12 dc12 pm12 cd12 ct12 : Value} {f_is_fuse : Addr} {od13 an13 : Option Addr} {sl13 : Array (Option Value)} {oc13 kV13 dc13 pm13 cd13 ct13 : Value} {f_burn_times : Addr} {od14 an14 : Option Addr} {sl14 : Array (Option Value)} {oc14 kV14 dc14 pm14 cd14 ct14 : Value} {f__law_draw : Addr} {od15 an15 : Option Addr} {sl15 : Array (Option Value)} {oc15 kV15 dc15 pm15 cd15 ct15 : Value} {f__law_begin : Addr} {od16 an16 : Option Addr} {sl16 : Array (Option Value)} {oc16 kV16 dc16 pm16 cd16 ct16 : Value} {f__law_saved : Addr} {od17 an17 : Option Addr} {sl17 : Array (Option Value)} {oc17 kV17 dc17 pm17 cd17 ct17 : Value} {f_is_net : Addr} {od18 an18 : Option Addr} {sl18 : Array (Option Value)} {oc18 kV18 dc18 pm18 cd18 ct18 : Value} {f_unburnt : Addr} {od19 an19 : Option Addr} {sl19 : Array (Option Value)} {oc19 kV19 dc19 pm19 cd19 ct19 : Value} {f_begin_of : Addr} {od20 an20 : Option Addr} {sl20 : Array (Option Value)} {oc20 kV20 dc20 pm20 cd20 ct20 : Value} {f__law_net : Addr} {od21 an21 : Option Addr} {sl21 : Array (Option Value)} {oc21 kV21 dc21 pm21 cd21 ct21 : Value} {f__law_lights : Addr} {od22 an22 : Option Addr} {sl22 : Array (Option Value)} {oc22 kV22 dc22 pm22 cd22 ct22 : Value} {f__law_free : Addr} {od23 an23 : Option Addr} {sl23 : Array (Option Value)} {oc23 kV23 dc23 pm23 cd23 ct23 : Value} {f_can_be_cut : Addr} {od24 an24 : Option Addr} {sl24 : Array (Option Value)} {oc24 kV24 dc24 pm24 cd24 ct24 : Value} {f_saved_length : Addr} {od25 an25 : Option Addr} {sl25 : Array (Option Value)} {oc25 kV25 dc25 pm25 cd25 ct25 : Value} {f_best_cuts : Addr} {od26 an26 : Option Addr} {sl26 : Array (Option Value)} {oc26 kV26 dc26 pm26 cd26 ct26 : Value} {f__law_same : Addr} {od27 an27 : Option Addr} {sl27 : Array (Option Value)} {oc27 kV27 dc27 pm27 cd27 ct27 : Value} {f_law : Addr} {od28 an28 : Option Addr} {sl28 : Array (Option Value)} {oc28 kV28 dc28 pm28 cd28 ct28 : Value} {tk0 : Tok} {tk1 : Tok} {tk2 : Tok} {n_c3 : Nat} {sl_c3 : Array (Option Value)} {a_c3 : Addr} {tk3_0 tk3_1 tk3_2 : Tok} {tk4 : Tok}
    (a0 : PySem.W.nsIn K mainGlobals "is_name" = some (some (.ref f_is_name))) (l0 : K.lookup f_is_name = some ⟨oc0, od0, .func (PySem.W.fnOf "is_name" "is_name" (defArgs s_is_name) (defBody s_is_name) (defScope s_is_name) .none kV0 dc0 pm0 an0 cd0 ct0), sl0⟩) (c0 : PySem.W.codeIn K cd0 "is_name" = true) (k0 : PySem.W.keepIn K (.ref f_is_name) = true)
    (a1 : PySem.W.nsIn K mainGlobals "is_number" = some (some (.ref f_is_number))) (l1 : K.lookup f_is_number = some ⟨oc1, od1, .func (PySem.W.fnOf "is_number" "is_number" (defArgs s_is_number) (defBody s_is_number) (defScope s_is_number) .none kV1 dc1 pm1 an1 cd1 ct1), sl1⟩) (c1 : PySem.W.codeIn K cd1 "is_number" = true) (k1 : PySem.W.keepIn K (.ref f_is_number) = true)
    (a2 : PySem.W.nsIn K mainGlobals "is_ascending" = some (some (.ref f_is_ascending))) (l2 : K.lookup f_is_ascending = some ⟨oc2, od2, .func (PySem.W.fnOf "is_ascending" "is_ascending" (defArgs s_is_ascending) (defBody s_is_ascending) (defScope s_is_ascending) .none kV2 dc2 pm2 an2 cd2 ct2), sl2⟩) (c2 : PySem.W.codeIn K cd2 "is_ascending" = true) (k2 : PySem.W.keepIn K (.ref f_is_ascending) = true)
    (a3 : PySem.W.nsIn K mainGlobals "fuses_at" = some (some (.ref f_fuses_at))) (l3 : K.lookup f_fuses_at = some ⟨oc3, od3, .func (PySem.W.fnOf "fuses_at" "fuses_at" (defArgs s_fuses_at) (defBody s_fuses_at) (defScope s_fuses_at) .none kV3 dc3 pm3 an3 cd3 ct3), sl3⟩) (c3 : PySem.W.codeIn K cd3 "fuses_at" = true) (k3 : PySem.W.keepIn K (.ref f_fuses_at) = true)
    (a4 : PySem.W.nsIn K mainGlobals "beyond" = some (some (.ref f_beyond))) (l4 : K.lookup f_beyond = some ⟨oc4, od4, .func (PySem.W.fnOf "beyond" "beyond" (defArgs s_beyond) (defBody s_beyond) (defScope s_beyond) .none kV4 dc4 pm4 an4 cd4 ct4), sl4⟩) (c4 : PySem.W.codeIn K cd4 "beyond" = true) (k4 : PySem.W.keepIn K (.ref f_beyond) = true)
    (a5 : PySem.W.nsIn K mainGlobals "net_without" = some (some (.ref f_net_without))) (l5 : K.lookup f_net_without = some ⟨oc5, od5, .func (PySem.W.fnOf "net_without" "net_without" (defArgs s_net_without) (defBody s_net_without) (defScope s_net_without) .none kV5 dc5 pm5 an5 cd5 ct5), sl5⟩) (c5 : PySem.W.codeIn K cd5 "net_without" = true) (k5 : PySem.W.keepIn K (.ref f_net_without) = true)
    (a6 : PySem.W.nsIn K mainGlobals "part_rows" = some (some (.ref f_part_rows))) (l6 : K.lookup f_part_rows = some ⟨oc6, od6, .func (PySem.W.fnOf "part_rows" "part_rows" (defArgs s_part_rows) (defBody s_part_rows) (defScope s_part_rows) .none kV6 dc6 pm6 an6 cd6 ct6), sl6⟩) (c6 : PySem.W.codeIn K cd6 "part_rows" = true) (k6 : PySem.W.keepIn K (.ref f_part_rows) = true)
    (a7 : PySem.W.nsIn K mainGlobals "_law_box" = some (some (.ref f__law_box))) (l7 : K.lookup f__law_box = some ⟨oc7, od7, .func (PySem.W.fnOf "_law_box" "_law_box" (defArgs s__law_box) (defBody s__law_box) (defScope s__law_box) .none kV7 dc7 pm7 an7 cd7 ct7), sl7⟩) (c7 : PySem.W.codeIn K cd7 "_law_box" = true) (k7 : PySem.W.keepIn K (.ref f__law_box) = true)
    (a8 : PySem.W.nsIn K mainGlobals "_law_load" = some (some (.ref f__law_load))) (l8 : K.lookup f__law_load = some ⟨oc8, od8, .func (PySem.W.fnOf "_law_load" "_law_load" (defArgs s__law_load) (defBody s__law_load) (defScope s__law_load) .none kV8 dc8 pm8 an8 cd8 ct8), sl8⟩) (c8 : PySem.W.codeIn K cd8 "_law_load" = true) (k8 : PySem.W.keepIn K (.ref f__law_load) = true)
    (a9 : PySem.W.nsIn K mainGlobals "_law_knots" = some (some (.ref f__law_knots))) (l9 : K.lookup f__law_knots = some ⟨oc9, od9, .func (PySem.W.fnOf "_law_knots" "_law_knots" (defArgs s__law_knots) (defBody s__law_knots) (defScope s__law_knots) .none kV9 dc9 pm9 an9 cd9 ct9), sl9⟩) (c9 : PySem.W.codeIn K cd9 "_law_knots" = true) (k9 : PySem.W.keepIn K (.ref f__law_knots) = true)
    (a10 : PySem.W.nsIn K mainGlobals "_law_times" = some (some (.ref f__law_times))) (l10 : K.lookup f__law_times = some ⟨oc10, od10, .func (PySem.W.fnOf "_law_times" "_law_times" (defArgs s__law_times) (defBody s__law_times) (defScope s__law_times) .none kV10 dc10 pm10 an10 cd10 ct10), sl10⟩) (c10 : PySem.W.codeIn K cd10 "_law_times" = true) (k10 : PySem.W.keepIn K (.ref f__law_times) = true)
    (a11 : PySem.W.nsIn K mainGlobals "_law_rest" = some (some (.ref f__law_rest))) (l11 : K.lookup f__law_rest = some ⟨oc11, od11, .func (PySem.W.fnOf "_law_rest" "_law_rest" (defArgs s__law_rest) (defBody s__law_rest) (defScope s__law_rest) .none kV11 dc11 pm11 an11 cd11 ct11), sl11⟩) (c11 : PySem.W.codeIn K cd11 "_law_rest" = true) (k11 : PySem.W.keepIn K (.ref f__law_rest) = true)
    (a12 : PySem.W.nsIn K mainGlobals "_law_sets" = some (some (.ref f__law_sets))) (l12 : K.lookup f__law_sets = some ⟨oc12, od12, .func (PySem.W.fnOf "_law_sets" "_law_sets" (defArgs s__law_sets) (defBody s__law_sets) (defScope s__law_sets) .none kV12 dc12 pm12 an12 cd12 ct12), sl12⟩) (c12 : PySem.W.codeIn K cd12 "_law_sets" = true) (k12 : PySem.W.keepIn K (.ref f__law_sets) = true)
    (a13 : PySem.W.nsIn K mainGlobals "is_fuse" = some (some (.ref f_is_fuse))) (l13 : K.lookup f_is_fuse = some ⟨oc13, od13, .func (PySem.W.fnOf "is_fuse" "is_fuse" (defArgs s_is_fuse) (defBody s_is_fuse) (defScope s_is_fuse) .none kV13 dc13 pm13 an13 cd13 ct13), sl13⟩) (c13 : PySem.W.codeIn K cd13 "is_fuse" = true) (k13 : PySem.W.keepIn K (.ref f_is_fuse) = true)
    (a14 : PySem.W.nsIn K mainGlobals "burn_times" = some (some (.ref f_burn_times))) (l14 : K.lookup f_burn_times = some ⟨oc14, od14, .func (PySem.W.fnOf "burn_times" "burn_times" (defArgs s_burn_times) (defBody s_burn_times) (defScope s_burn_times) .none kV14 dc14 pm14 an14 cd14 ct14), sl14⟩) (c14 : PySem.W.codeIn K cd14 "burn_times" = true) (k14 : PySem.W.keepIn K (.ref f_burn_times) = true)
    (a15 : PySem.W.nsIn K mainGlobals "_law_draw" = some (some (.ref f__law_draw))) (l15 : K.lookup f__law_draw = some ⟨oc15, od15, .func (PySem.W.fnOf "_law_draw" "_law_draw" (defArgs s__law_draw) (defBody s__law_draw) (defScope s__law_draw) .none kV15 dc15 pm15 an15 cd15 ct15), sl15⟩) (c15 : PySem.W.codeIn K cd15 "_law_draw" = true) (k15 : PySem.W.keepIn K (.ref f__law_draw) = true)
    (a16 : PySem.W.nsIn K mainGlobals "_law_begin" = some (some (.ref f__law_begin))) (l16 : K.lookup f__law_begin = some ⟨oc16, od16, .func (PySem.W.fnOf "_law_begin" "_law_begin" (defArgs s__law_begin) (defBody s__law_begin) (defScope s__law_begin) .none kV16 dc16 pm16 an16 cd16 ct16), sl16⟩) (c16 : PySem.W.codeIn K cd16 "_law_begin" = true) (k16 : PySem.W.keepIn K (.ref f__law_begin) = true)
    (a17 : PySem.W.nsIn K mainGlobals "_law_saved" = some (some (.ref f__law_saved))) (l17 : K.lookup f__law_saved = some ⟨oc17, od17, .func (PySem.W.fnOf "_law_saved" "_law_saved" (defArgs s__law_saved) (defBody s__law_saved) (defScope s__law_saved) .none kV17 dc17 pm17 an17 cd17 ct17), sl17⟩) (c17 : PySem.W.codeIn K cd17 "_law_saved" = true) (k17 : PySem.W.keepIn K (.ref f__law_saved) = true)
    (a18 : PySem.W.nsIn K mainGlobals "is_net" = some (some (.ref f_is_net))) (l18 : K.lookup f_is_net = some ⟨oc18, od18, .func (PySem.W.fnOf "is_net" "is_net" (defArgs s_is_net) (defBody s_is_net) (defScope s_is_net) .none kV18 dc18 pm18 an18 cd18 ct18), sl18⟩) (c18 : PySem.W.codeIn K cd18 "is_net" = true) (k18 : PySem.W.keepIn K (.ref f_is_net) = true)
    (a19 : PySem.W.nsIn K mainGlobals "unburnt" = some (some (.ref f_unburnt))) (l19 : K.lookup f_unburnt = some ⟨oc19, od19, .func (PySem.W.fnOf "unburnt" "unburnt" (defArgs s_unburnt) (defBody s_unburnt) (defScope s_unburnt) .none kV19 dc19 pm19 an19 cd19 ct19), sl19⟩) (c19 : PySem.W.codeIn K cd19 "unburnt" = true) (k19 : PySem.W.keepIn K (.ref f_unburnt) = true)
    (a20 : PySem.W.nsIn K mainGlobals "begin_of" = some (some (.ref f_begin_of))) (l20 : K.lookup f_begin_of = some ⟨oc20, od20, .func (PySem.W.fnOf "begin_of" "begin_of" (defArgs s_begin_of) (defBody s_begin_of) (defScope s_begin_of) .none kV20 dc20 pm20 an20 cd20 ct20), sl20⟩) (c20 : PySem.W.codeIn K cd20 "begin_of" = true) (k20 : PySem.W.keepIn K (.ref f_begin_of) = true)
    (a21 : PySem.W.nsIn K mainGlobals "_law_net" = some (some (.ref f__law_net))) (l21 : K.lookup f__law_net = some ⟨oc21, od21, .func (PySem.W.fnOf "_law_net" "_law_net" (defArgs s__law_net) (defBody s__law_net) (defScope s__law_net) .none kV21 dc21 pm21 an21 cd21 ct21), sl21⟩) (c21 : PySem.W.codeIn K cd21 "_law_net" = true) (k21 : PySem.W.keepIn K (.ref f__law_net) = true)
    (a22 : PySem.W.nsIn K mainGlobals "_law_lights" = some (some (.ref f__law_lights))) (l22 : K.lookup f__law_lights = some ⟨oc22, od22, .func (PySem.W.fnOf "_law_lights" "_law_lights" (defArgs s__law_lights) (defBody s__law_lights) (defScope s__law_lights) .none kV22 dc22 pm22 an22 cd22 ct22), sl22⟩) (c22 : PySem.W.codeIn K cd22 "_law_lights" = true) (k22 : PySem.W.keepIn K (.ref f__law_lights) = true)
    (a23 : PySem.W.nsIn K mainGlobals "_law_free" = some (some (.ref f__law_free))) (l23 : K.lookup f__law_free = some ⟨oc23, od23, .func (PySem.W.fnOf "_law_free" "_law_free" (defArgs s__law_free) (defBody s__law_free) (defScope s__law_free) .none kV23 dc23 pm23 an23 cd23 ct23), sl23⟩) (c23 : PySem.W.codeIn K cd23 "_law_free" = true) (k23 : PySem.W.keepIn K (.ref f__law_free) = true)
    (a24 : PySem.W.nsIn K mainGlobals "can_be_cut" = some (some (.ref f_can_be_cut))) (l24 : K.lookup f_can_be_cut = some ⟨oc24, od24, .func (PySem.W.fnOf "can_be_cut" "can_be_cut" (defArgs s_can_be_cut) (defBody s_can_be_cut) (defScope s_can_be_cut) .none kV24 dc24 pm24 an24 cd24 ct24), sl24⟩) (c24 : PySem.W.codeIn K cd24 "can_be_cut" = true) (k24 : PySem.W.keepIn K (.ref f_can_be_cut) = true)
    (a25 : PySem.W.nsIn K mainGlobals "saved_length" = some (some (.ref f_saved_length))) (l25 : K.lookup f_saved_length = some ⟨oc25, od25, .func (PySem.W.fnOf "saved_length" "saved_length" (defArgs s_saved_length) (defBody s_saved_length) (defScope s_saved_length) .none kV25 dc25 pm25 an25 cd25 ct25), sl25⟩) (c25 : PySem.W.codeIn K cd25 "saved_length" = true) (k25 : PySem.W.keepIn K (.ref f_saved_length) = true)
    (a26 : PySem.W.nsIn K mainGlobals "best_cuts" = some (some (.ref f_best_cuts))) (l26 : K.lookup f_best_cuts = some ⟨oc26, od26, .func (PySem.W.fnOf "best_cuts" "best_cuts" (defArgs s_best_cuts) (defBody s_best_cuts) (defScope s_best_cuts) .none kV26 dc26 pm26 an26 cd26 ct26), sl26⟩) (c26 : PySem.W.codeIn K cd26 "best_cuts" = true) (k26 : PySem.W.keepIn K (.ref f_best_cuts) = true)
    (a27 : PySem.W.nsIn K mainGlobals "_law_same" = some (some (.ref f__law_same))) (l27 : K.lookup f__law_same = some ⟨oc27, od27, .func (PySem.W.fnOf "_law_same" "_law_same" (defArgs s__law_same) (defBody s__law_same) (defScope s__law_same) .none kV27 dc27 pm27 an27 cd27 ct27), sl27⟩) (c27 : PySem.W.codeIn K cd27 "_law_same" = true) (k27 : PySem.W.keepIn K (.ref f__law_same) = true)
    (a28 : PySem.W.nsIn K mainGlobals "law" = some (some (.ref f_law))) (l28 : K.lookup f_law = some ⟨oc28, od28, .func (PySem.W.fnOf "law" "law" (defArgs s_law) (defBody s_law) (defScope s_law) .none kV28 dc28 pm28 an28 cd28 ct28), sl28⟩) (c28 : PySem.W.codeIn K cd28 "law" = true) (k28 : PySem.W.keepIn K (.ref f_law) = true)
    (y0 : PySem.W.nsIn K mainGlobals "DIGITS" = some (some (.str "0123456789" tk0)))
    (y1 : PySem.W.nsIn K mainGlobals "LONGEST" = some (some (.int (1000) tk1)))
    (y2 : PySem.W.nsIn K mainGlobals "MOST_FUSES" = some (some (.int (24) tk2)))
    (y3 : PySem.W.nsIn K mainGlobals "RESERVED" = some (some (.ref a_c3))) (yl3 : K.lookup a_c3 = some ⟨.type "tuple", none, .seq #[.str "all" tk3_0, .str "any" tk3_1, .str "none" tk3_2] n_c3, sl_c3⟩)
    (y4 : PySem.W.nsIn K mainGlobals "SMALL" = some (some (.str "abcdefghijklmnopqrstuvwxyz" tk4)))
    (z0 : PySem.W.nsIn K mainGlobals "all" = some none)
    (z1 : PySem.W.nsIn K mainGlobals "bool" = some none)
    (z2 : PySem.W.nsIn K mainGlobals "dict" = some none)
    (z3 : PySem.W.nsIn K mainGlobals "int" = some none)
    (z4 : PySem.W.nsIn K mainGlobals "isinstance" = some none)
    (z5 : PySem.W.nsIn K mainGlobals "len" = some none)
    (z6 : PySem.W.nsIn K mainGlobals "list" = some none)
    (z7 : PySem.W.nsIn K mainGlobals "max" = some none)
    (z8 : PySem.W.nsIn K mainGlobals "min" = some none)
    (z9 : PySem.W.nsIn K mainGlobals "range" = some none)
    (z10 : PySem.W.nsIn K mainGlobals "sorted" = some none)
    (z11 : PySem.W.nsIn K mainGlobals "str" = some none)
    (z12 : PySem.W.nsIn K mainGlobals "sum" = some none)
    (z13 : PySem.W.nsIn K mainGlobals "tuple" = some none) :
    ∃ fd : FuncData, (∀ (s : Shared) (v : Value), BindsTo s fd ⟨[v], []⟩ [("script", v)]) ∧ ∀ base : Heap, K.In base → base.Ns mainGlobals mg → FnOk l.prog w K mg base CX0 11 fa fd ["script"] (spLaw K) := by
  have e := hfa.symm.trans (PySem.W.mg_of X G a28)
  cases e
  have F_is_name := fun_mk (st := s_is_name) l0 c0 k0
  have g_is_name := PySem.W.mg_of X G a0
  have b_is_name := F_is_name.binds (ps := ["value"]) fun _ _ _ _ _ _ us hl => match us, hl with | [_], _ => rfl
  have F_is_number := fun_mk (st := s_is_number) l1 c1 k1
  have g_is_number := PySem.W.mg_of X G a1
  have b_is_number := F_is_number.binds (ps := ["value", "least", "most"]) fun _ _ _ _ _ _ us hl => match us, hl with | [_, _, _], _ => rfl
  have F_is_ascending := fun_mk (st := s_is_ascending) l2 c2 k2
  have g_is_ascending := PySem.W.mg_of X G a2
  have b_is_ascending := F_is_ascending.binds (ps := ["rows"]) fun _ _ _ _ _ _ us hl => match us, hl with | [_], _ => rfl
  have F_fuses_at := fun_mk (st := s_fuses_at) l3 c3 k3
  have g_fuses_at := PySem.W.mg_of X G a3
  have b_fuses_at := F_fuses_at.binds (ps := ["net", "knot"]) fun _ _ _ _ _ _ us hl => match us, hl with | [_, _], _ => rfl
  have F_beyond := fun_mk (st := s_beyond) l4 c4 k4
  have g_beyond := PySem.W.mg_of X G a4
  have b_beyond := F_beyond.binds (ps := ["fuse", "knot"]) fun _ _ _ _ _ _ us hl => match us, hl with | [_, _], _ => rfl
  have F_net_without := fun_mk (st := s_net_without) l5 c5 k5
  have g_net_without := PySem.W.mg_of X G a5
  have b_net_without := F_net_without.binds (ps := ["net", "cut"]) fun _ _ _ _ _ _ us hl => match us, hl with | [_, _], _ => rfl
  have F_part_rows := fun_mk (st := s_part_rows) l6 c6 k6
  have g_part_rows := PySem.W.mg_of X G a6
  have b_part_rows := F_part_rows.binds (ps := ["parts", "many"]) fun _ _ _ _ _ _ us hl => match us, hl with | [_, _], _ => rfl
  have F__law_box := fun_mk (st := s__law_box) l7 c7 k7
  have g__law_box := PySem.W.mg_of X G a7
  have b__law_box := F__law_box.binds (ps := ["script"]) fun _ _ _ _ _ _ us hl => match us, hl with | [_], _ => rfl
  have F__law_load := fun_mk (st := s__law_load) l8 c8 k8
  have g__law_load := PySem.W.mg_of X G a8
  have b__law_load := F__law_load.binds (ps := ["box"]) fun _ _ _ _ _ _ us hl => match us, hl with | [_], _ => rfl
  have F__law_knots := fun_mk (st := s__law_knots) l9 c9 k9
  have g__law_knots := PySem.W.mg_of X G a9
  have b__law_knots := F__law_knots.binds (ps := ["net"]) fun _ _ _ _ _ _ us hl => match us, hl with | [_], _ => rfl
  have F__law_times := fun_mk (st := s__law_times) l10 c10 k10
  have g__law_times := PySem.W.mg_of X G a10
  have b__law_times := F__law_times.binds (ps := ["net", "lights"]) fun _ _ _ _ _ _ us hl => match us, hl with | [_, _], _ => rfl
  have F__law_rest := fun_mk (st := s__law_rest) l11 c11 k11
  have g__law_rest := PySem.W.mg_of X G a11
  have b__law_rest := F__law_rest.binds (ps := ["net", "cut"]) fun _ _ _ _ _ _ us hl => match us, hl with | [_, _], _ => rfl
  have F__law_sets := fun_mk (st := s__law_sets) l12 c12 k12
  have g__law_sets := PySem.W.mg_of X G a12
  have b__law_sets := F__law_sets.binds (ps := ["rows"]) fun _ _ _ _ _ _ us hl => match us, hl with | [_], _ => rfl
  have F_is_fuse := fun_mk (st := s_is_fuse) l13 c13 k13
  have g_is_fuse := PySem.W.mg_of X G a13
  have b_is_fuse := F_is_fuse.binds (ps := ["value"]) fun _ _ _ _ _ _ us hl => match us, hl with | [_], _ => rfl
  have F_burn_times := fun_mk (st := s_burn_times) l14 c14 k14
  have g_burn_times := PySem.W.mg_of X G a14
  have b_burn_times := F_burn_times.binds (ps := ["net", "lights"]) fun _ _ _ _ _ _ us hl => match us, hl with | [_, _], _ => rfl
  have F__law_draw := fun_mk (st := s__law_draw) l15 c15 k15
  have g__law_draw := PySem.W.mg_of X G a15
  have b__law_draw := F__law_draw.binds (ps := ["box", "many"]) fun _ _ _ _ _ _ us hl => match us, hl with | [_, _], _ => rfl
  have F__law_begin := fun_mk (st := s__law_begin) l16 c16 k16
  have g__law_begin := PySem.W.mg_of X G a16
  have b__law_begin := F__law_begin.binds (ps := ["net", "lights", "fuse"]) fun _ _ _ _ _ _ us hl => match us, hl with | [_, _, _], _ => rfl
  have F__law_saved := fun_mk (st := s__law_saved) l17 c17 k17
  have g__law_saved := PySem.W.mg_of X G a17
  have b__law_saved := F__law_saved.binds (ps := ["net", "lights", "cut"]) fun _ _ _ _ _ _ us hl => match us, hl with | [_, _, _], _ => rfl
  have F_is_net := fun_mk (st := s_is_net) l18 c18 k18
  have g_is_net := PySem.W.mg_of X G a18
  have b_is_net := F_is_net.binds (ps := ["value"]) fun _ _ _ _ _ _ us hl => match us, hl with | [_], _ => rfl
  have F_unburnt := fun_mk (st := s_unburnt) l19 c19 k19
  have g_unburnt := PySem.W.mg_of X G a19
  have b_unburnt := F_unburnt.binds (ps := ["net", "lights"]) fun _ _ _ _ _ _ us hl => match us, hl with | [_, _], _ => rfl
  have F_begin_of := fun_mk (st := s_begin_of) l20 c20 k20
  have g_begin_of := PySem.W.mg_of X G a20
  have b_begin_of := F_begin_of.binds (ps := ["net", "lights", "fuse"]) fun _ _ _ _ _ _ us hl => match us, hl with | [_, _, _], _ => rfl
  have F__law_net := fun_mk (st := s__law_net) l21 c21 k21
  have g__law_net := PySem.W.mg_of X G a21
  have b__law_net := F__law_net.binds (ps := ["box", "knots", "fuses", "most"]) fun _ _ _ _ _ _ us hl => match us, hl with | [_, _, _, _], _ => rfl
  have F__law_lights := fun_mk (st := s__law_lights) l22 c22 k22
  have g__law_lights := PySem.W.mg_of X G a22
  have b__law_lights := F__law_lights.binds (ps := ["box", "net", "most", "late"]) fun _ _ _ _ _ _ us hl => match us, hl with | [_, _, _, _], _ => rfl
  have F__law_free := fun_mk (st := s__law_free) l23 c23 k23
  have g__law_free := PySem.W.mg_of X G a23
  have b__law_free := F__law_free.binds (ps := ["net", "lights", "moment"]) fun _ _ _ _ _ _ us hl => match us, hl with | [_, _, _], _ => rfl
  have F_can_be_cut := fun_mk (st := s_can_be_cut) l24 c24 k24
  have g_can_be_cut := PySem.W.mg_of X G a24
  have b_can_be_cut := F_can_be_cut.binds (ps := ["net", "lights", "moment"]) fun _ _ _ _ _ _ us hl => match us, hl with | [_, _, _], _ => rfl
  have F_saved_length := fun_mk (st := s_saved_length) l25 c25 k25
  have g_saved_length := PySem.W.mg_of X G a25
  have b_saved_length := F_saved_length.binds (ps := ["net", "lights", "cut"]) fun _ _ _ _ _ _ us hl => match us, hl with | [_, _, _], _ => rfl
  have F_best_cuts := fun_mk (st := s_best_cuts) l26 c26 k26
  have g_best_cuts := PySem.W.mg_of X G a26
  have b_best_cuts := F_best_cuts.binds (ps := ["net", "lights", "moment", "many"]) fun _ _ _ _ _ _ us hl => match us, hl with | [_, _, _, _], _ => rfl
  have F__law_same := fun_mk (st := s__law_same) l27 c27 k27
  have g__law_same := PySem.W.mg_of X G a27
  have b__law_same := F__law_same.binds (ps := ["a", "b"]) fun _ _ _ _ _ _ us hl => match us, hl with | [_, _], _ => rfl
  have F_law := fun_mk (st := s_law) l28 c28 k28
  have g_law := PySem.W.mg_of X G a28
  have b_law := F_law.binds (ps := ["script"]) fun _ _ _ _ _ _ us hl => match us, hl with | [_], _ => rfl
  have c_DIGITS := PySem.W.mg_of X G y0
  have r_DIGITS : L2.RelV (.str "0123456789") _ := ⟨tk0, rfl⟩
  have c_LONGEST := PySem.W.mg_of X G y1
  have r_LONGEST : L2.RelV (.int (1000)) _ := ⟨tk1, rfl⟩
  have c_MOST_FUSES := PySem.W.mg_of X G y2
  have r_MOST_FUSES : L2.RelV (.int (24)) _ := ⟨tk2, rfl⟩
  have c_RESERVED := PySem.W.mg_of X G y3
  have w_RESERVED : GT K _ [(.str "all"), (.str "any"), (.str "none")] := .of yl3 (by rw [sizeLine_eq]; simp) (.cons ⟨_, rfl⟩ (.cons ⟨_, rfl⟩ (.cons ⟨_, rfl⟩ .nil)))
  have a_RESERVED : ∀ av H, RepA K av H [(.str "all"), (.str "any"), (.str "none")] [(.str "all"), (.str "any"), (.str "none")] := fun _ _ => (.cons (.str _) (.cons (.str _) (.cons (.str _) .nil)))
  have c_SMALL := PySem.W.mg_of X G y4
  have r_SMALL : L2.RelV (.str "abcdefghijklmnopqrstuvwxyz") _ := ⟨tk4, rfl⟩
  have m_all := PySem.W.mg_none_of X G z0
  have m_bool := PySem.W.mg_none_of X G z1
  have m_dict := PySem.W.mg_none_of X G z2
  have m_int := PySem.W.mg_none_of X G z3
  have m_isinstance := PySem.W.mg_none_of X G z4
  have m_len := PySem.W.mg_none_of X G z5
  have m_list := PySem.W.mg_none_of X G z6
  have m_max := PySem.W.mg_none_of X G z7
  have m_min := PySem.W.mg_none_of X G z8
  have m_range := PySem.W.mg_none_of X G z9
  have m_sorted := PySem.W.mg_none_of X G z10
  have m_str := PySem.W.mg_none_of X G z11
  have m_sum := PySem.W.mg_none_of X G z12
  have m_tuple := PySem.W.mg_none_of X G z13
  refine ⟨PySem.W.fnOf "law" "law" (defArgs s_law) (defBody s_law) (defScope s_law) .none kV28 dc28 pm28 an28 cd28 ct28, fun s v => .of_eq rfl, fun base _ _ => ?_⟩
  have G_is_name : FnOk l.prog w K mg base CX0 1 f_is_name _ _ _ := ok_is_name F_is_name m_all m_isinstance m_len m_str c_DIGITS r_DIGITS c_RESERVED w_RESERVED a_RESERVED c_SMALL r_SMALL
  have G_is_number : FnOk l.prog w K mg base CX0 1 f_is_number _ _ _ := ok_is_number F_is_number m_bool m_int m_isinstance
  have G_is_ascending : FnOk l.prog w K mg base CX0 1 f_is_ascending _ _ _ := ok_is_ascending F_is_ascending m_all m_len m_range
  have G_fuses_at : FnOk l.prog w K mg base CX0 1 f_fuses_at _ _ _ := ok_fuses_at F_fuses_at
  have G_beyond : FnOk l.prog w K mg base CX0 1 f_beyond _ _ _ := ok_beyond F_beyond
  have G_net_without : FnOk l.prog w K mg base CX0 1 f_net_without _ _ _ := ok_net_without F_net_without m_tuple
  have G_part_rows : FnOk l.prog w K mg base CX0 1 f_part_rows _ _ _ := ok_part_rows F_part_rows m_len m_range
  have G__law_box : FnOk l.prog w K mg base CX0 1 f__law_box _ _ _ := ok__law_box F__law_box m_len m_list
  have G__law_load : FnOk l.prog w K mg base CX0 1 f__law_load _ _ _ := ok__law_load F__law_load m_int m_len
  have G__law_knots : FnOk l.prog w K mg base CX0 1 f__law_knots _ _ _ := ok__law_knots F__law_knots m_dict m_sorted
  have G__law_times : FnOk l.prog w K mg base CX0 1 f__law_times _ _ _ := ok__law_times F__law_times m_dict m_len m_range
  have G__law_rest : FnOk l.prog w K mg base CX0 1 f__law_rest _ _ _ := ok__law_rest F__law_rest m_tuple
  have G__law_sets : FnOk l.prog w K mg base CX0 1 f__law_sets _ _ _ := ok__law_sets F__law_sets m_len m_sorted
  have G_is_fuse : FnOk l.prog w K mg base CX0 2 f_is_fuse _ _ _ := ok_is_fuse F_is_fuse m_isinstance m_len m_tuple c_LONGEST r_LONGEST F_is_number g_is_number b_is_number G_is_number F_is_name g_is_name b_is_name G_is_name
  have G_burn_times : FnOk l.prog w K mg base CX0 2 f_burn_times _ _ _ := ok_burn_times F_burn_times m_dict m_len m_min F_fuses_at g_fuses_at b_fuses_at G_fuses_at F_beyond g_beyond b_beyond G_beyond
  have G__law_draw : FnOk l.prog w K mg base CX0 2 f__law_draw _ _ _ := ok__law_draw F__law_draw m_int F__law_load g__law_load b__law_load G__law_load
  have G__law_begin : FnOk l.prog w K mg base CX0 2 f__law_begin _ _ _ := ok__law_begin F__law_begin m_min F__law_times g__law_times b__law_times G__law_times
  have G__law_saved : FnOk l.prog w K mg base CX0 2 f__law_saved _ _ _ := ok__law_saved F__law_saved m_sum F__law_times g__law_times b__law_times G__law_times F__law_rest g__law_rest b__law_rest G__law_rest
  have G_is_net : FnOk l.prog w K mg base CX0 3 f_is_net _ _ _ := ok_is_net F_is_net m_all m_isinstance m_len m_tuple c_MOST_FUSES r_MOST_FUSES F_is_ascending g_is_ascending b_is_ascending G_is_ascending F_is_fuse g_is_fuse b_is_fuse G_is_fuse
  have G_unburnt : FnOk l.prog w K mg base CX0 3 f_unburnt _ _ _ := ok_unburnt F_unburnt m_tuple F_burn_times g_burn_times b_burn_times G_burn_times
  have G_begin_of : FnOk l.prog w K mg base CX0 3 f_begin_of _ _ _ := ok_begin_of F_begin_of m_min F_burn_times g_burn_times b_burn_times G_burn_times
  have G__law_net : FnOk l.prog w K mg base CX0 3 f__law_net _ _ _ := ok__law_net F__law_net m_max m_min m_range m_sorted m_tuple F__law_draw g__law_draw b__law_draw G__law_draw
  have G__law_lights : FnOk l.prog w K mg base CX0 3 f__law_lights _ _ _ := ok__law_lights F__law_lights m_len m_range m_sorted m_tuple F__law_draw g__law_draw b__law_draw G__law_draw F__law_knots g__law_knots b__law_knots G__law_knots
  have G__law_free : FnOk l.prog w K mg base CX0 3 f__law_free _ _ _ := ok__law_free F__law_free F__law_begin g__law_begin b__law_begin G__law_begin
  have G_can_be_cut : FnOk l.prog w K mg base CX0 4 f_can_be_cut _ _ _ := ok_can_be_cut F_can_be_cut m_tuple F_begin_of g_begin_of b_begin_of G_begin_of
  have G_saved_length : FnOk l.prog w K mg base CX0 4 f_saved_length _ _ _ := ok_saved_length F_saved_length m_sum F_unburnt g_unburnt b_unburnt G_unburnt F_net_without g_net_without b_net_without G_net_without
  have G_best_cuts : FnOk l.prog w K mg base CX0 5 f_best_cuts _ _ _ := ok_best_cuts F_best_cuts m_range F_part_rows g_part_rows b_part_rows G_part_rows F_saved_length g_saved_length b_saved_length G_saved_length F_can_be_cut g_can_be_cut b_can_be_cut G_can_be_cut
  have H__law_same : ∀ n, FnOk l.prog w K mg base CX0 (n + 0) f__law_same _ ["a", "b"] (spD K 2 (fSame n)) := fun n => by
    induction n with
    | zero => exact fnOk_false
    | succ n ih => exact (Nat.add_right_comm n 0 1) ▸ step__law_same (k := n) F__law_same m_all m_bool m_int m_isinstance m_len m_list m_range m_str m_tuple F__law_same g__law_same b__law_same ih
  have G__law_same := H__law_same 10
  exact ok_law F_law F__law_box g__law_box b__law_box G__law_box m_dict m_len m_max m_range m_sorted m_sum m_tuple F__law_same g__law_same b__law_same G__law_same F_best_cuts g_best_cuts b_best_cuts G_best_cuts F_saved_length g_saved_length b_saved_length G_saved_length F__law_saved g__law_saved b__law_saved G__law_saved F__law_draw g__law_draw b__law_draw G__law_draw F__law_sets g__law_sets b__law_sets G__law_sets F_can_be_cut g_can_be_cut b_can_be_cut G_can_be_cut F_is_net g_is_net b_is_net G_is_net F__law_free g__law_free b__law_free G__law_free F__law_lights g__law_lights b__law_lights G__law_lights F__law_net g__law_net b__law_net G__law_net

end
end K44
open PySem PySem.W PyProof.Rows
set_option maxHeartbeats 0 in
theorem PySem.Challenge.cw_fuseslit_k44_whole_lengths_saved_holds : PySem.Challenge.rw_fuseslit_k44_whole_lengths_saved.Holds := by
  w_on; o_law; k_head; (case hw => w_witness2)
  k_fill
  refine L2.walk_of (l := PySem.Challenge.rw_fuseslit_k44_whole_lengths_saved) (n := 63) (k := 11) (x := "script") (CX := fun _ => L2.CX0) (sp := fun w => PyD.spLaw _) rfl (by decide) rfl ⟨rfl, by decide, by decide⟩ (fun w h Y => PySem.W.kIn_of Y) ?F (fun _ _ a ns hl _ hS => ⟨a, ns, rfl, hl, hS, fun _ => rfl⟩) (fun _ _ _ _ _ h => h)
  case F =>
    intro w mg fa h KX G hmg
    refine' K44.all_mk KX G hmg ?a0 ?l0 ?c0 ?k0 ?a1 ?l1 ?c1 ?k1 ?a2 ?l2 ?c2 ?k2 ?a3 ?l3 ?c3 ?k3 ?a4 ?l4 ?c4 ?k4 ?a5 ?l5 ?c5 ?k5 ?a6 ?l6 ?c6 ?k6 ?a7 ?l7 ?c7 ?k7 ?a8 ?l8 ?c8 ?k8 ?a9 ?l9 ?c9 ?k9 ?a10 ?l10 ?c10 ?k10 ?a11 ?l11 ?c11 ?k11 ?a12 ?l12 ?c12 ?k12 ?a13 ?l13 ?c13 ?k13 ?a14 ?l14 ?c14 ?k14 ?a15 ?l15 ?c15 ?k15 ?a16 ?l16 ?c16 ?k16 ?a17 ?l17 ?c17 ?k17 ?a18 ?l18 ?c18 ?k18 ?a19 ?l19 ?c19 ?k19 ?a20 ?l20 ?c20 ?k20 ?a21 ?l21 ?c21 ?k21 ?a22 ?l22 ?c22 ?k22 ?a23 ?l23 ?c23 ?k23 ?a24 ?l24 ?c24 ?k24 ?a25 ?l25 ?c25 ?k25 ?a26 ?l26 ?c26 ?k26 ?a27 ?l27 ?c27 ?k27 ?a28 ?l28 ?c28 ?k28 ?y0 ?y1 ?y2 ?y3 ?yl3 ?y4 ?z0 ?z1 ?z2 ?z3 ?z4 ?z5 ?z6 ?z7 ?z8 ?z9 ?z10 ?z11 ?z12 ?z13
    (case a0 => k_is); (case l0 => k_is); (case c0 => k_is); (case k0 => k_is); (case a1 => k_is); (case l1 => k_is); (case c1 => k_is); (case k1 => k_is); (case a2 => k_is); (case l2 => k_is); (case c2 => k_is); (case k2 => k_is); (case a3 => k_is); (case l3 => k_is); (case c3 => k_is); (case k3 => k_is); (case a4 => k_is); (case l4 => k_is); (case c4 => k_is); (case k4 => k_is); (case a5 => k_is); (case l5 => k_is); (case c5 => k_is); (case k5 => k_is); (case a6 => k_is); (case l6 => k_is); (case c6 => k_is); (case k6 => k_is); (case a7 => k_is); (case l7 => k_is); (case c7 => k_is); (case k7 => k_is); (case a8 => k_is); (case l8 => k_is); (case c8 => k_is); (case k8 => k_is); (case a9 => k_is); (case l9 => k_is); (case c9 => k_is); (case k9 => k_is); (case a10 => k_is); (case l10 => k_is); (case c10 => k_is); (case k10 => k_is); (case a11 => k_is); (case l11 => k_is); (case c11 => k_is); (case k11 => k_is); (case a12 => k_is); (case l12 => k_is); (case c12 => k_is); (case k12 => k_is); (case a13 => k_is); (case l13 => k_is); (case c13 => k_is); (case k13 => k_is); (case a14 => k_is); (case l14 => k_is); (case c14 => k_is); (case k14 => k_is); (case a15 => k_is); (case l15 => k_is); (case c15 => k_is); (case k15 => k_is); (case a16 => k_is); (case l16 => k_is); (case c16 => k_is); (case k16 => k_is); (case a17 => k_is); (case l17 => k_is); (case c17 => k_is); (case k17 => k_is); (case a18 => k_is); (case l18 => k_is); (case c18 => k_is); (case k18 => k_is); (case a19 => k_is); (case l19 => k_is); (case c19 => k_is); (case k19 => k_is); (case a20 => k_is); (case l20 => k_is); (case c20 => k_is); (case k20 => k_is); (case a21 => k_is); (case l21 => k_is); (case c21 => k_is); (case k21 => k_is); (case a22 => k_is); (case l22 => k_is); (case c22 => k_is); (case k22 => k_is); (case a23 => k_is); (case l23 => k_is); (case c23 => k_is); (case k23 => k_is); (case a24 => k_is); (case l24 => k_is); (case c24 => k_is); (case k24 => k_is); (case a25 => k_is); (case l25 => k_is); (case c25 => k_is); (case k25 => k_is); (case a26 => k_is); (case l26 => k_is); (case c26 => k_is); (case k26 => k_is); (case a27 => k_is); (case l27 => k_is); (case c27 => k_is); (case k27 => k_is); (case a28 => k_is); (case l28 => k_is); (case c28 => k_is); (case k28 => k_is); (case y0 => k_is); (case y1 => k_is); (case y2 => k_is); (case y3 => k_is); (case yl3 => k_is); (case y4 => k_is); (case z0 => k_is); (case z1 => k_is); (case z2 => k_is); (case z3 => k_is); (case z4 => k_is); (case z5 => k_is); (case z6 => k_is); (case z7 => k_is); (case z8 => k_is); (case z9 => k_is); (case z10 => k_is); (case z11 => k_is); (case z12 => k_is); (case z13 => k_is)
