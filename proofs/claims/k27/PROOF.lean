import PyProof.Rows.All
import HandS.ForMost
import HandS.ForExc
import HandS.CallSlots
import HandS.Gcd
import HandS.Wide
import HandS.IsInst
import HandS.Flow
import HandS.TupAny
import HandS.TupMul
import HandS.Deep
import HandS.Style
import HandS.Conv
import HandS.SortInts
import HandS.Head0
import HandS.Head1
import HandS.Head2
import HandS.Head3
import HandS.HeadEnd
import HandS.HeadHook1
import HandS.HeadHook2
import HandS.HeadHook3
import HandS.HeadHook4
import PySem.Challenge.RW_throwsagree_k27_whole_polynomials_of_who
set_option Elab.async false
set_option linter.all false
set_option maxRecDepth 100000
/-! DL: data above the hand layer: values as trees, owned objects in a store. -/
namespace DL
abbrev St := L2.St
open PySem PySem.Spec PyProof.Rows L2

/-- data: tuples and lists that nobody changes are trees; ref a is an owned object of the store; scr a list that is only read -/
inductive D where
  | non | bl (b : Bool) | int (i : Int) | str (s : Str)
  | tup (xs : List D) | lst (xs : List D) | scr (xs : List D) | ref (a : Addr) | exn (c : Nat) (a : Addr)
/-- an owned object -/
inductive MO where
  | lst (xs : List D) | dK (kvs : List (Key × D)) | dT (kvs : List (List Key × D)) | xd (fs : List (Str × D))
abbrev Mem := Addr → Option MO
def put (M : Mem) (a : Addr) (o : MO) : Mem := fun b => if b = a then some o else M b
theorem put_same {M : Mem} {a : Addr} {o : MO} : put M a o a = some o := by unfold put; rw [if_pos rfl]
theorem put_ne {M : Mem} {a b : Addr} {o : MO} (h : b ≠ a) : put M a o b = M b := by unfold put; rw [if_neg h]
theorem put_put {M : Mem} {a : Addr} {o u : MO} : put (put M a o) a u = put M a u := by
  funext b; unfold put; split <;> rfl
abbrev Env := List (Option D)

section
variable (K : PySem.W.Frag) (ca : Nat → Addr) (Z : Addr → Prop) (M : Mem) (H : Hp)
/-- a tuple at a that may be read -/
def TupAt (a : Addr) (xs : List V) : Prop := (Rd H a (.tup xs) ∧ M a = none) ∨ (∃ (o : Obj) (its : Array Value) (n : Nat), K.lookup a = some o ∧ o.cls = .type "tuple" ∧ o.data = .seq its n ∧ its.size ≤ sizeLine ∧ Vals xs its.toList)
def ScrAt (a : Addr) (xs : List V) : Prop := (Rd H a (.lst xs) ∧ M a = none ∧ ¬ Z a) ∨ (∃ (o : Obj) (its : Array Value) (n : Nat), K.lookup a = some o ∧ o.cls = .type "list" ∧ o.dict = none ∧ o.data = .seq its n ∧ its.size ≤ sizeLine ∧ Vals xs its.toList)
mutual
inductive Rep : V → D → Prop
  | non : Rep .non .non
  | bl (b : Bool) : Rep (.bl b) (.bl b)
  | int (i : Int) : Rep (.int i) (.int i)
  | str (x : Str) : Rep (.str x) (.str x)
  | tup {a : Addr} {xs : List V} {ds : List D} : TupAt K M H a xs → Reps xs ds → Rep (.ref a) (.tup ds)
  | lst {a : Addr} {xs : List V} {ds : List D} : H a = some (.lst xs) → M a = none → ¬ Z a → Reps xs ds → Rep (.ref a) (.lst ds)
  | scr {a : Addr} {xs : List V} {ds : List D} : ScrAt K Z M H a xs → Reps xs ds → Rep (.ref a) (.scr ds)
  | ref {a : Addr} {o : MO} : M a = some o → Rep (.ref a) (.ref a)
  | exn (c : Nat) (a : Addr) : Rep (.ref a) (.exn c a)
inductive Reps : List V → List D → Prop
  | nil : Reps [] []
  | cons {v : V} {vs : List V} {d : D} {ds : List D} : Rep v d → Reps vs ds → Reps (v :: vs) (d :: ds)
end
abbrev KRep {κ : Type} : List (κ × V) → List (κ × D) → Prop := Paired fun p q => p.1 = q.1 ∧ Rep K Z M H p.2 q.2
def MObj (a : Addr) : MO → Prop
  | .lst ds => ∃ xs, H a = some (.lst xs) ∧ Reps K Z M H xs ds
  | .dK kvs => ∃ vs, H a = some (.dK vs) ∧ KRep K Z M H vs kvs
  | .dT kvs => ∃ vs, H a = some (.dT vs) ∧ KRep K Z M H vs kvs
  | .xd fs => ∃ vs, H a = some (.xd vs) ∧ KRep K Z M H vs fs
structure MemOk : Prop where
  obj : ∀ a o, M a = some o → MObj K Z M H a o
  nz : ∀ a o, M a = some o → ¬ Z a
  zt : ∀ a, Z a → ∃ o, H a = some o
end
/-- from a state to a later one: what is tracked but not owned stays -/
structure Stp (M : Mem) (H : Hp) (M' : Mem) (H' : Hp) : Prop where
  keep : ∀ a o, H a = some o → M a = none → H' a = some o
  free : ∀ a o, H a = some o → M a = none → M' a = none
  own : ∀ a o, M a = some o → ∃ o', M' a = some o'
theorem Stp.refl {M : Mem} {H : Hp} : Stp M H M H := ⟨fun _ _ h _ => h, fun _ _ _ h => h, fun a o h => ⟨o, h⟩⟩
theorem Stp.trans {M M1 M2 : Mem} {H H1 H2 : Hp} (a : Stp M H M1 H1) (b : Stp M1 H1 M2 H2) : Stp M H M2 H2 :=
  ⟨fun x o h n => b.keep x o (a.keep x o h n) (a.free x o h n), fun x o h n => b.free x o (a.keep x o h n) (a.free x o h n), fun x o h => let ⟨o', h'⟩ := a.own x o h; b.own x o' h'⟩
section
variable {K : PySem.W.Frag} {Z : Addr → Prop} {M M' : Mem} {H H' : Hp}
theorem MObj.there {a : Addr} {o : MO} (h : MObj K Z M H a o) : ∃ u, H a = some u := by
  cases o <;> exact ⟨_, h.choose_spec.1⟩
theorem TupAt.mono {a : Addr} {xs : List V} (h : TupAt K M H a xs) (s : Stp M H M' H') : TupAt K M' H' a xs := by
  rcases h with ⟨h | ⟨o, h⟩, n⟩ | h
  · exact .inl ⟨.inl (s.keep _ _ h n), s.free _ _ h n⟩
  · exact .inl ⟨.inr ⟨o, s.keep _ _ h n⟩, s.free _ _ h n⟩
  · exact .inr h
theorem ScrAt.mono {a : Addr} {xs : List V} (h : ScrAt K Z M H a xs) (s : Stp M H M' H') : ScrAt K Z M' H' a xs := by
  rcases h with ⟨h | ⟨o, h⟩, n, z⟩ | h
  · exact .inl ⟨.inl (s.keep _ _ h n), s.free _ _ h n, z⟩
  · exact .inl ⟨.inr ⟨o, s.keep _ _ h n⟩, s.free _ _ h n, z⟩
  · exact .inr h
theorem TupAt.seq {a : Addr} {xs : List V} (h : TupAt K M H a xs) : SqT K H a xs := by
  rcases h with ⟨h, _⟩ | h
  · exact .inl h
  · exact .inr h
theorem ScrAt.seq {a : Addr} {xs : List V} (h : ScrAt K Z M H a xs) : SqL K H a xs := by
  rcases h with ⟨h, _⟩ | h
  · exact .inl h
  · exact .inr h
mutual
theorem Rep.mono (s : Stp M H M' H') : ∀ {v : V} {d : D}, Rep K Z M H v d → Rep K Z M' H' v d
  | _, _, .non => .non
  | _, _, .bl b => .bl b
  | _, _, .int i => .int i
  | _, _, .str x => .str x
  | _, _, .tup h r => .tup (h.mono s) (Reps.mono s r)
  | _, _, .lst h n z r => .lst (s.keep _ _ h n) (s.free _ _ h n) z (Reps.mono s r)
  | _, _, .scr h r => .scr (h.mono s) (Reps.mono s r)
  | _, _, .ref h => let ⟨_, h'⟩ := s.own _ _ h; .ref h'
  | _, _, .exn c a => .exn c a
theorem Reps.mono (s : Stp M H M' H') : ∀ {vs : List V} {ds : List D}, Reps K Z M H vs ds → Reps K Z M' H' vs ds
  | _, _, .nil => .nil
  | _, _, .cons a r => .cons (Rep.mono s a) (Reps.mono s r)
end
theorem KRep.mono {κ : Type} (s : Stp M H M' H') : ∀ {vs : List (κ × V)} {ds : List (κ × D)}, KRep K Z M H vs ds → KRep K Z M' H' vs ds
  | _, _, .nil => .nil
  | _, _, .cons a r => .cons ⟨a.1, a.2.mono s⟩ (KRep.mono s r)
theorem MObj.mono (s : Stp M H M' H') {a : Addr} {o : MO} (e : H' a = H a) (h : MObj K Z M H a o) : MObj K Z M' H' a o := by
  cases o with
  | lst ds => obtain ⟨xs, h1, h2⟩ := h; exact ⟨xs, e.trans h1, h2.mono s⟩
  | dK ds => obtain ⟨xs, h1, h2⟩ := h; exact ⟨xs, e.trans h1, h2.mono s⟩
  | dT ds => obtain ⟨xs, h1, h2⟩ := h; exact ⟨xs, e.trans h1, h2.mono s⟩
  | xd ds => obtain ⟨xs, h1, h2⟩ := h; exact ⟨xs, e.trans h1, h2.mono s⟩
theorem Reps.length : ∀ {vs : List V} {ds : List D}, Reps K Z M H vs ds → vs.length = ds.length
  | _, _, .nil => rfl
  | _, _, .cons _ r => congrArg (· + 1) r.length
theorem Reps.get : ∀ {vs : List V} {ds : List D} {i : Nat} {d : D}, Reps K Z M H vs ds → ds[i]? = some d → ∃ v, vs[i]? = some v ∧ Rep K Z M H v d
  | _, _, _, _, .nil, e => by simp at e
  | _, _, 0, _, .cons a r, e => by simp at e; subst e; exact ⟨_, rfl, a⟩
  | _, _, i + 1, d, .cons _ r, e => by
    obtain ⟨v, h1, h2⟩ := Reps.get (i := i) (d := d) r (by simpa using e)
    exact ⟨v, by simpa using h1, h2⟩
theorem Reps.get' : ∀ {vs : List V} {ds : List D} {i : Nat} {v : V}, Reps K Z M H vs ds → vs[i]? = some v → ∃ d, ds[i]? = some d ∧ Rep K Z M H v d
  | _, _, _, _, .nil, e => by simp at e
  | _, _, 0, _, .cons a r, e => by simp at e; subst e; exact ⟨_, rfl, a⟩
  | _, _, i + 1, d, .cons _ r, e => by
    obtain ⟨v, h1, h2⟩ := Reps.get' (i := i) (v := d) r (by simpa using e)
    exact ⟨v, by simpa using h1, h2⟩
theorem Reps.append : ∀ {vs us : List V} {ds es : List D}, Reps K Z M H vs ds → Reps K Z M H us es → Reps K Z M H (vs ++ us) (ds ++ es)
  | _, _, _, _, .nil, s => s
  | _, _, _, _, .cons a r, s => .cons a (r.append s)
theorem Reps.take : ∀ {vs : List V} {ds : List D} (n : Nat), Reps K Z M H vs ds → Reps K Z M H (vs.take n) (ds.take n)
  | _, _, 0, _ => .nil
  | _, _, _ + 1, .nil => .nil
  | _, _, n + 1, .cons a r => .cons a (r.take n)
theorem Reps.drop : ∀ {vs : List V} {ds : List D} (n : Nat), Reps K Z M H vs ds → Reps K Z M H (vs.drop n) (ds.drop n)
  | _, _, 0, r => r
  | _, _, _ + 1, .nil => .nil
  | _, _, n + 1, .cons _ r => r.drop n
theorem Reps.set {v : V} {d : D} (a : Rep K Z M H v d) : ∀ {vs : List V} {ds : List D} (i : Nat), Reps K Z M H vs ds → Reps K Z M H (vs.set i v) (ds.set i d)
  | _, _, _, .nil => .nil
  | _, _, 0, .cons _ r => .cons a r
  | _, _, i + 1, .cons b r => .cons b (Reps.set a i r)
theorem Reps.reverse {vs : List V} {ds : List D} (r : Reps K Z M H vs ds) : Reps K Z M H vs.reverse ds.reverse := by
  induction vs generalizing ds with
  | nil => cases r; exact .nil
  | cons v vs ih =>
    cases r with
    | cons a r => rw [List.reverse_cons, List.reverse_cons]; exact (ih r).append (.cons a .nil)
theorem Reps.ints : ∀ {vs : List V} {ns : List Int}, Reps K Z M H vs (ns.map D.int) → vs = ns.map V.int
  | _, [], .nil => rfl
  | _, _ :: _, .cons a r => by
    cases a
    rw [List.map_cons, Reps.ints r]
theorem Reps.of_ints : ∀ (ns : List Int), Reps K Z M H (ns.map V.int) (ns.map D.int)
  | [] => .nil
  | _ :: r => .cons (.int _) (Reps.of_ints r)
theorem Reps.bls : ∀ {vs : List V} {ns : List Bool}, Reps K Z M H vs (ns.map D.bl) → vs = ns.map V.bl
  | _, [], .nil => rfl
  | _, _ :: _, .cons a r => by
    cases a
    rw [List.map_cons, Reps.bls r]
theorem Reps.flat : ∀ {vs : List V} {dss : List (List D)} {vss : List (List V)}, Paired (Reps K Z M H) vss dss → Reps K Z M H vss.flatten dss.flatten
  | _, _, _, .nil => .nil
  | vs, _, _, .cons a r => by
    rw [List.flatten_cons, List.flatten_cons]
    exact a.append (Reps.flat (vs := vs) r)
/-- the store keeps what it says -/
theorem MemOk.step (m : MemOk K Z M H) (s : Stp M H M' H') (h : ∀ a o, M' a = some o → MObj K Z M' H' a o ∧ ¬ Z a) : MemOk K Z M' H' where
  obj := fun a o e => (h a o e).1
  nz := fun a o e => (h a o e).2
  zt := fun a z => by
    obtain ⟨o, e⟩ := m.zt a z
    refine ⟨o, s.keep a o e ?_⟩
    cases q : M a with
    | none => rfl
    | some u => exact absurd z (m.nz a u q)
theorem MemOk.free (m : MemOk K Z M H) {p : Addr} (h : H p = none) : M p = none := by
  cases q : M p with
  | none => rfl
  | some u =>
    obtain ⟨o, e⟩ := (m.obj p u q).there
    rw [h] at e; cases e
theorem MemOk.nzf (m : MemOk K Z M H) {p : Addr} (h : H p = none) : ¬ Z p := fun z => by
  obtain ⟨o, e⟩ := m.zt p z
  rw [h] at e; cases e
/-- a new object that nobody owns -/
theorem Stp.laid (m : MemOk K Z M H) {p : Addr} {u : HO} (h : H p = none) : Stp M H M (upd H p u) :=
  ⟨fun a o e _ => by rw [upd_ne (ne_of_none e h)]; exact e, fun _ _ _ n => n, fun a o e => ⟨o, e⟩⟩
theorem MemOk.laid (m : MemOk K Z M H) {p : Addr} {u : HO} (h : H p = none) : MemOk K Z M (upd H p u) :=
  m.step (Stp.laid m h) fun a o e => by
    obtain ⟨w, q⟩ := (m.obj a o e).there
    exact ⟨(m.obj a o e).mono (Stp.laid m h) (upd_ne (ne_of_none q h)), m.nz a o e⟩
/-- a new object that is owned -/
theorem Stp.laidO (m : MemOk K Z M H) {p : Addr} {u : HO} {o : MO} (h : H p = none) : Stp M H (put M p o) (upd H p u) :=
  ⟨fun a o e _ => by rw [upd_ne (ne_of_none e h)]; exact e, fun a o e n => by rw [put_ne (ne_of_none e h)]; exact n, fun a o' e => by
    by_cases q : a = p
    · subst q; exact ⟨o, put_same⟩
    · exact ⟨o', by rw [put_ne q]; exact e⟩⟩
theorem MemOk.laidO (m : MemOk K Z M H) {p : Addr} {u : HO} {o : MO} (h : H p = none) (ok : MObj K Z (put M p o) (upd H p u) p o) : MemOk K Z (put M p o) (upd H p u) :=
  m.step (Stp.laidO m h) fun a o' e => by
    by_cases q : a = p
    · subst q; rw [put_same] at e; cases e; exact ⟨ok, m.nzf h⟩
    · rw [put_ne q] at e
      exact ⟨(m.obj a o' e).mono (Stp.laidO m h) (upd_ne q), m.nz a o' e⟩
/-- an owned object is written -/
theorem Stp.write {p : Addr} {u : HO} {o o' : MO} (h : M p = some o) : Stp M H (put M p o') (upd H p u) :=
  ⟨fun a w e n => by
    have q : a ≠ p := fun z => by subst z; rw [h] at n; cases n
    rw [upd_ne q]; exact e, fun a w e n => by
    have q : a ≠ p := fun z => by subst z; rw [h] at n; cases n
    rw [put_ne q]; exact n, fun a w e => by
    by_cases q : a = p
    · subst q; exact ⟨o', put_same⟩
    · exact ⟨w, by rw [put_ne q]; exact e⟩⟩
theorem MemOk.write (m : MemOk K Z M H) {p : Addr} {u : HO} {o o' : MO} (h : M p = some o) (ok : MObj K Z (put M p o') (upd H p u) p o') : MemOk K Z (put M p o') (upd H p u) :=
  m.step (Stp.write h) fun a w e => by
    by_cases q : a = p
    · subst q; rw [put_same] at e; cases e; exact ⟨ok, m.nz a o h⟩
    · rw [put_ne q] at e
      exact ⟨(m.obj a w e).mono (Stp.write h) (upd_ne q), m.nz a w e⟩
end

/-- the anchor of a body: what is hidden, the store and the heap at its entry -/
structure An where
  Z : Addr → Prop
  S : Mem → Hp → Prop
  cl : ∀ {M H M' H'}, S M H → Stp M H M' H' → S M' H'
structure RelS (K : PySem.W.Frag) (A : An) (ρ : Env) (M : Mem) (σ : St) (H : Hp) : Prop where
  slot : ∀ (i : Nat) (d : D), ρ[i]? = some (some d) → ∃ v, σ[i]? = some (some v) ∧ Rep K A.Z M H v d
  len : ρ.length = σ.length
  mem : MemOk K A.Z M H
  stp : A.S M H
section
variable {K : PySem.W.Frag} {A : An} {ρ : Env} {M M' : Mem} {σ : St} {H H' : Hp}
theorem RelS.step (r : RelS K A ρ M σ H) (s : Stp M H M' H') (m : MemOk K A.Z M' H') : RelS K A ρ M' σ H' where
  slot := fun i d e => let ⟨v, h1, h2⟩ := r.slot i d e; ⟨v, h1, h2.mono s⟩
  len := r.len
  mem := m
  stp := A.cl r.stp s
theorem RelS.set (r : RelS K A ρ M σ H) {i : Nat} {v : V} {d : D} (h : Rep K A.Z M H v d) : RelS K A (ρ.set i (some d)) M (σ.set i (some v)) H where
  slot := fun j e q => by
    by_cases z : i = j
    · subst z
      by_cases hl : i < ρ.length
      · rw [List.getElem?_set_self hl] at q
        cases q
        exact ⟨v, List.getElem?_set_self (by rw [← r.len]; exact hl), h⟩
      · rw [List.getElem?_eq_none (by rw [List.length_set]; omega)] at q
        cases q
    · rw [List.getElem?_set_ne z] at q
      obtain ⟨v', h1, h2⟩ := r.slot j e q
      exact ⟨v', by rw [List.getElem?_set_ne z]; exact h1, h2⟩
  len := by rw [List.length_set, List.length_set]; exact r.len
  mem := r.mem
  stp := r.stp
theorem RelS.unset (r : RelS K A ρ M σ H) {i : Nat} : RelS K A (ρ.set i none) M (σ.set i none) H where
  slot := fun j e q => by
    by_cases z : i = j
    · subst z
      by_cases hl : i < ρ.length
      · rw [List.getElem?_set_self hl] at q
        cases q
      · rw [List.getElem?_eq_none (by rw [List.length_set]; omega)] at q
        cases q
    · rw [List.getElem?_set_ne z] at q
      obtain ⟨v', h1, h2⟩ := r.slot j e q
      exact ⟨v', by rw [List.getElem?_set_ne z]; exact h1, h2⟩
  len := by rw [List.length_set, List.length_set]; exact r.len
  mem := r.mem
  stp := r.stp
/-- a frozen list, a tuple, newly made -/
theorem RelS.laid (r : RelS K A ρ M σ H) {p : Addr} {u : HO} (h : H p = none) : RelS K A ρ M σ (upd H p u) := r.step (Stp.laid r.mem h) (r.mem.laid h)
theorem Rep.newLst (m : MemOk K A.Z M H) {p : Addr} {xs : List V} {ds : List D} (h : H p = none) (r : Reps K A.Z M H xs ds) : Rep K A.Z M (upd H p (.lst xs)) (.ref p) (.lst ds) :=
  .lst upd_same (m.free h) (m.nzf h) (r.mono (Stp.laid m h))
theorem Rep.newTup (m : MemOk K A.Z M H) {p : Addr} {xs : List V} {ds : List D} (h : H p = none) (r : Reps K A.Z M H xs ds) : Rep K A.Z M (upd H p (.tup xs)) (.ref p) (.tup ds) :=
  .tup (.inl ⟨.inl upd_same, m.free h⟩) (r.mono (Stp.laid m h))
theorem RelS.laidL (r : RelS K A ρ M σ H) {p : Addr} {xs : List V} {ds : List D} (h : H p = none) (q : Reps K A.Z M H xs ds) : RelS K A ρ (put M p (.lst ds)) σ (upd H p (.lst xs)) :=
  r.step (Stp.laidO r.mem h) (r.mem.laidO h ⟨xs, upd_same, q.mono (Stp.laidO r.mem h)⟩)
theorem RelS.laidK (r : RelS K A ρ M σ H) {p : Addr} {xs : List (Key × V)} {ds : List (Key × D)} (h : H p = none) (q : KRep K A.Z M H xs ds) : RelS K A ρ (put M p (.dK ds)) σ (upd H p (.dK xs)) :=
  r.step (Stp.laidO r.mem h) (r.mem.laidO h ⟨xs, upd_same, q.mono (Stp.laidO r.mem h)⟩)
theorem RelS.laidT (r : RelS K A ρ M σ H) {p : Addr} {xs : List (List Key × V)} {ds : List (List Key × D)} (h : H p = none) (q : KRep K A.Z M H xs ds) : RelS K A ρ (put M p (.dT ds)) σ (upd H p (.dT xs)) :=
  r.step (Stp.laidO r.mem h) (r.mem.laidO h ⟨xs, upd_same, q.mono (Stp.laidO r.mem h)⟩)
theorem RelS.writeL (r : RelS K A ρ M σ H) {p : Addr} {o : MO} {xs : List V} {ds : List D} (h : M p = some o) (q : Reps K A.Z M H xs ds) : RelS K A ρ (put M p (.lst ds)) σ (upd H p (.lst xs)) :=
  r.step (Stp.write h) (r.mem.write h ⟨xs, upd_same, q.mono (Stp.write h)⟩)
theorem RelS.writeK (r : RelS K A ρ M σ H) {p : Addr} {o : MO} {xs : List (Key × V)} {ds : List (Key × D)} (h : M p = some o) (q : KRep K A.Z M H xs ds) : RelS K A ρ (put M p (.dK ds)) σ (upd H p (.dK xs)) :=
  r.step (Stp.write h) (r.mem.write h ⟨xs, upd_same, q.mono (Stp.write h)⟩)
theorem RelS.writeT (r : RelS K A ρ M σ H) {p : Addr} {o : MO} {xs : List (List Key × V)} {ds : List (List Key × D)} (h : M p = some o) (q : KRep K A.Z M H xs ds) : RelS K A ρ (put M p (.dT ds)) σ (upd H p (.dT xs)) :=
  r.step (Stp.write h) (r.mem.write h ⟨xs, upd_same, q.mono (Stp.write h)⟩)
end
end DL
set_option Elab.async false
set_option linter.all false
set_option maxRecDepth 100000
namespace DL
open PySem PySem.Spec PyProof.Rows L2

structure Exn where
  c : Nat
  fs : List (Str × D)
/-- what a def is worth: a wish about its end is turned into what it asks -/
structure DSp where
  ar : Nat
  wp : List D → Mem → (D → Mem → Prop) → (Exn → Mem → Prop) → Prop
  mono : ∀ {ds M Q Q' E E'}, (∀ d M, Q d M → Q' d M) → (∀ x M, E x M → E' x M) → wp ds M Q E → wp ds M Q' E'
  len : ∀ {ds M Q E}, wp ds M Q E → ds.length = ar

inductive BOp | add | sub | mul | fdiv | mod | pow
  deriving DecidableEq
inductive COp | eq | ne | lt | le | gt | ge | isin | notin
  deriving DecidableEq
inductive Ty | tint | tbool | tstr | tlist | ttup | tdict
  deriving DecidableEq
inductive BF | len | toint | abs | max2 | min2 | gcd | tuple | list | sum | all | any | sorted | str | max1 | min1
  deriving DecidableEq
inductive CV | non | bl (b : Bool) | int (i : Int) | str (s : Str)
  deriving DecidableEq
inductive Tg | nm (i : Nat) | tu (is : List Nat)
  deriving DecidableEq
mutual
inductive IE
  | var (i : Nat) | cst (v : CV) | glob (g : Nat)
  | tup (es : IEs) | lst (own : Bool) (es : IEs)
  | bin (own : Bool) (op : BOp) (a b : IE)
  | neg (a : IE) | not (a : IE)
  | and (es : IEs) | or (es : IEs)
  | cmp (op : COp) (a b : IE)
  | chain (op op' : COp) (a b c : IE)
  | isN (no : Bool) (a : IE)
  | ite (c a b : IE)
  | ix (a b : IE)
  | sl (own : Bool) (a : IE) (lo hi : IO)
  | call (f : Nat) (es : IEs)
  | call0 (f : Nat)
  | blt (own : Bool) (f : BF) (es : IEs)
  | isi (a : IE) (ts : List Ty)
  | lc (own : Bool) (t : Tg) (elt : IE) (it : II) (tst : IO)
  | dnew (tk : Bool) | disp (ks : List Str) (es : IEs)
  | pop (a : IE)
  | get (a k d : IE)
  | rev (own : Bool) (a : IE)
inductive IEs | nil | cons (e : IE) (es : IEs)
inductive IO | none | some (e : IE)
inductive II | seq (e : IE) | rng1 (a : IE) | rng2 (a b : IE)
end
mutual
inductive IS
  | set (i : Nat) (e : IE) | par (i j : Nat) (a b : IE) | par3 (i j l : Nat) (a b c : IE) | unp (t : Tg) (e : IE)
  | six (o k e : IE)
  | exp (e : IE) | app (o e : IE) | ret (e : IE) | retN | pass | brk | cont | never
  | ite (c : IE) (a b : ISs)
  | for (t : Tg) (it : II) (body : ISs)
  | while (c : IE) (body : ISs)
inductive ISs | nil | cons (s : IS) (ss : ISs)
end

/-! ### values -/
def CV.d : CV → D
  | .non => .non | .bl b => .bl b | .int i => .int i | .str s => .str s
/-- an owned list is read as it stands -/
def rs (M : Mem) : D → D
  | .ref a => match M a with
    | some (.lst xs) => .lst xs
    | _ => .ref a
  | d => d
def seqOf (M : Mem) : D → Option (List D)
  | .tup xs => some xs
  | .lst xs => some xs
  | .scr xs => some xs
  | .ref a => match M a with
    | some (.lst xs) => some xs
    | _ => none
  | _ => none
def truth (M : Mem) : D → Option Bool
  | .non => some false
  | .bl b => some b
  | .int i => some (i != 0)
  | .str s => if s.length ≤ sizeLine then some (s.length != 0) else none
  | .tup xs => some (!xs.isEmpty)
  | .lst xs => some (!xs.isEmpty)
  | .scr xs => some (!xs.isEmpty)
  | .ref a => match M a with
    | some (.lst xs) => some (!xs.isEmpty)
    | some (.dK xs) => some (!xs.isEmpty)
    | _ => none
  | _ => none
def isNon : D → Bool
  | .non => true
  | _ => false
def newL (own : Bool) (xs : List D) (M : Mem) (Q : D → Mem → Prop) : Prop :=
  if own then ∀ p, M p = none → Q (.ref p) (put M p (.lst xs)) else Q (.lst xs) M
def mulOk (i j : Int) : Prop := i.natAbs.log2 + j.natAbs.log2 < 1000000
def divOk (j : Int) : Prop := j ≠ 0 ∧ j.natAbs.log2 < 9000
def repL (xs : List D) (k : Int) : List D := (List.replicate k.toNat xs).flatten
def binW (own : Bool) (op : BOp) (x y : D) (M : Mem) (Q : D → Mem → Prop) : Prop :=
  match op, x, y with
  | .add, .int i, .int j => Q (.int (i + j)) M
  | .sub, .int i, .int j => Q (.int (i - j)) M
  | .mul, .int i, .int j => mulOk i j ∧ Q (.int (i * j)) M
  | .fdiv, .int i, .int j => divOk j ∧ Q (.int (i.fdiv j)) M
  | .mod, .int i, .int j => j ≠ 0 ∧ Q (.int (i.fmod j)) M
  | .pow, .int i, .int j => (0 ≤ j ∧ j ≤ 1000000 ∧ i.natAbs < 2 ^ 64) ∧ Q (.int (i ^ j.toNat)) M
  | .add, .tup xs, .tup ys => xs.length + ys.length ≤ sizeLine ∧ Q (.tup (xs ++ ys)) M
  | .add, .str a, .str b => a.length + b.length ≤ sizeLine ∧ Q (.str (a ++ b)) M
  | .mul, .tup xs, .int k => (xs ≠ [] ∧ 2 ≤ k ∧ k ≤ 1000 ∧ xs.length ≤ 1000) ∧ Q (.tup (repL xs k)) M
  | .add, x, y => ∃ xs ys, rs M x = .lst xs ∧ rs M y = .lst ys ∧ xs.length + ys.length ≤ sizeLine ∧ newL own (xs ++ ys) M Q
  | .mul, x, .int k => ∃ xs, rs M x = .lst xs ∧ (-(2 ^ 63) ≤ k ∧ k < 2 ^ 63 ∧ xs.length * k.toNat ≤ sizeLine) ∧ newL own (repL xs k) M Q
  | _, _, _ => False
mutual
def deq : D → D → Bool
  | .non, .non => true
  | .bl a, .bl b => a == b
  | .bl a, .int j => (if a then 1 else 0) == j
  | .int i, .bl b => i == (if b then 1 else 0)
  | .int i, .int j => i == j
  | .str x, .str y => x == y
  | .lst xs, .lst ys => deqs xs ys
  | .lst xs, .scr ys => deqs xs ys
  | .scr xs, .lst ys => deqs xs ys
  | .scr xs, .scr ys => deqs xs ys
  | .tup xs, .tup ys => deqs xs ys
  | _, _ => false
def deqs : List D → List D → Bool
  | [], [] => true
  | x :: xs, y :: ys => deq x y && deqs xs ys
  | _, _ => false
end
mutual
/-- plain data of at most that depth -/
def eqOk : Nat → D → Bool
  | _, .non => true
  | _, .bl _ => true
  | _, .int _ => true
  | _, .str s => PyData.strOk s
  | n + 1, .tup xs => eqOks n xs
  | n + 1, .lst xs => eqOks n xs
  | n + 1, .scr xs => eqOks n xs
  | _, _ => false
def eqOks : Nat → List D → Bool
  | _, [] => true
  | n, x :: xs => eqOk n x && eqOks n xs
end
def flatD : D → Bool
  | .non => true | .bl _ => true | .int _ => true | .str _ => true | _ => false
def keyOf : D → Option Key
  | .int i => some (.inl i)
  | .str s => some (.inr s)
  | _ => none
def keysOf : List D → Option (List Key)
  | [] => some []
  | d :: ds => match keyOf d, keysOf ds with
    | some k, some ks => some (k :: ks)
    | _, _ => none
def look {κ : Type} [DecidableEq κ] (kvs : List (κ × D)) (k : κ) : Option D := (kvs.find? fun kv => decide (kv.1 = k)).map (·.2)
def putD {κ : Type} [DecidableEq κ] (kvs : List (κ × D)) (k : κ) (v : D) : List (κ × D) :=
  if (kvs.any fun kv => decide (kv.1 = k)) = true then kvs.map (fun kv => if kv.1 = k then (kv.1, v) else kv) else kvs ++ [(k, v)]
def dlook (M : Mem) (a : Addr) (k : D) : Option (Option D) :=
  match M a with
  | some (.dK kvs) => (keyOf k).map (look kvs)
  | _ => none
def cmpB (op : COp) (i j : Int) : Bool :=
  match op with
  | .lt => decide (i < j) | .le => decide (i ≤ j) | .gt => decide (j < i) | .ge => decide (j ≤ i) | _ => false
def inW (neg : Bool) (x y : D) (M : Mem) (Q : D → Mem → Prop) : Prop :=
  match y with
  | .str t => ∃ s, x = .str s ∧ Q (.bl (neg != !(Builtin.Str.occurrences t s 0 t.length 1).isEmpty)) M
  | .tup xs => flatD x = true ∧ xs.all flatD = true ∧ Q (.bl (neg != xs.any fun z => deq z x)) M
  | .lst xs => eqOk 60 x = true ∧ eqOks 60 xs = true ∧ Q (.bl (neg != xs.any fun z => deq z x)) M
  | .scr xs => eqOk 60 x = true ∧ eqOks 60 xs = true ∧ Q (.bl (neg != xs.any fun z => deq z x)) M
  | .ref a => (∃ xs, M a = some (.lst xs) ∧ eqOk 60 x = true ∧ eqOks 60 xs = true ∧ Q (.bl (neg != xs.any fun z => deq z x)) M) ∨
      (∃ o, dlook M a x = some o ∧ Q (.bl (neg != o.isSome)) M)
  | _ => False
def cmpW (op : COp) (x y : D) (M : Mem) (Q : D → Mem → Prop) : Prop :=
  match op with
  | .eq => eqOk 64 (rs M x) = true ∧ eqOk 64 (rs M y) = true ∧ Q (.bl (deq (rs M x) (rs M y))) M
  | .ne => eqOk 64 (rs M x) = true ∧ eqOk 64 (rs M y) = true ∧ Q (.bl (!deq (rs M x) (rs M y))) M
  | .isin => inW false x y M Q
  | .notin => inW true x y M Q
  | op => ∃ i j, x = .int i ∧ y = .int j ∧ Q (.bl (cmpB op i j)) M
def isTy (M : Mem) (t : Ty) : D → Option Bool
  | .non => some false
  | .bl _ => some (t = .tbool ∨ t = .tint)
  | .int _ => some (t = .tint)
  | .str _ => some (t = .tstr)
  | .tup _ => some (t = .ttup)
  | .lst _ => some (t = .tlist)
  | .scr _ => some (t = .tlist)
  | .ref a => match M a with
    | some (.lst _) => some (t = .tlist)
    | some (.dK _) => some (t = .tdict)
    | some (.dT _) => some (t = .tdict)
    | _ => none
  | _ => none
def isTys (M : Mem) (d : D) : List Ty → Option Bool
  | [] => some false
  | t :: ts => match isTy M t d, isTys M d ts with
    | some a, some b => some (a || b)
    | _, _ => none
def ixW (x y : D) (M : Mem) (Q : D → Mem → Prop) : Prop :=
  match x, y with
  | .str z, .int i => z.length ≤ sizeLine ∧ ∃ c, atI z.cps.toList i = some c ∧ Q (.str ⟨#[c]⟩) M
  | .ref a, k => (∃ xs i d, M a = some (.lst xs) ∧ k = .int i ∧ atI xs i = some d ∧ Q d M) ∨ (∃ d, dlook M a k = some (some d) ∧ Q d M)
  | .tup xs, .int i => ∃ d, atI xs i = some d ∧ Q d M
  | .lst xs, .int i => ∃ d, atI xs i = some d ∧ Q d M
  | .scr xs, .int i => ∃ d, atI xs i = some d ∧ Q d M
  | _, _ => False
def cutD (xs : List D) (lo hi : Option Int) : List D := (xs.drop (HT.sIx xs.length 0 lo)).take (HT.sIx xs.length xs.length hi - HT.sIx xs.length 0 lo)
def slW (own : Bool) (x : D) (lo hi : Option Int) (M : Mem) (Q : D → Mem → Prop) : Prop :=
  match x with
  | .tup xs => Q (.tup (cutD xs lo hi)) M
  | .str z => z.length ≤ sizeLine ∧ Q (.str (cutS z lo hi)) M
  | x => ∃ xs, (x = .scr xs ∨ rs M x = .lst xs) ∧ newL own (cutD xs lo hi) M Q
def six1 (M : Mem) (a : Addr) (k e : D) (Q : Mem → Prop) : Prop :=
  (∃ xs i j, M a = some (.lst xs) ∧ k = .int i ∧ ixN xs.length i = some j ∧ Q (put M a (.lst (xs.set j e)))) ∨
  (∃ kvs q, M a = some (.dK kvs) ∧ keyOf k = some q ∧ kvs.length < sizeLine ∧ Q (put M a (.dK (putD kvs q e))))
def bltW (own : Bool) (f : BF) (ds : List D) (M : Mem) (Q : D → Mem → Prop) : Prop :=
  match f with
  | .len => match ds with
    | [.str s] => s.length ≤ sizeLine ∧ Q (.int s.length) M
    | [.ref a] => (∃ xs, M a = some (.lst xs) ∧ Q (.int xs.length) M) ∨ (∃ kvs, M a = some (.dK kvs) ∧ Q (.int kvs.length) M)
    | [d] => ∃ xs, seqOf M d = some xs ∧ Q (.int xs.length) M
    | _ => False
  | .toint => match ds with
    | [.int i] => Q (.int i) M
    | [.bl b] => Q (.int (if b then 1 else 0)) M
    | _ => False
  | .abs => ∃ i : Int, ds = [.int i] ∧ Q (.int (if i < 0 then -i else i)) M
  | .max2 => ∃ i j : Int, ds = [.int i, .int j] ∧ Q (.int (if j > i then j else i)) M
  | .min2 => ∃ i j : Int, ds = [.int i, .int j] ∧ Q (.int (if j < i then j else i)) M
  | .gcd => ∃ i j : Int, ds = [.int i, .int j] ∧ Q (.int ((Nat.gcd i.natAbs j.natAbs : Nat) : Int)) M
  | .tuple => ∃ d xs, ds = [d] ∧ seqOf M d = some xs ∧ Q (.tup xs) M
  | .list => ∃ d xs, ds = [d] ∧ seqOf M d = some xs ∧ newL own xs M Q
  | .sum => ∃ (d : D) (ns : List Int), ds = [d] ∧ (d = .scr (ns.map D.int) ∨ rs M d = .lst (ns.map D.int)) ∧ Q (.int ns.sum) M
  | .all => ∃ (d : D) (bs : List Bool), ds = [d] ∧ rs M d = .lst (bs.map D.bl) ∧ Q (.bl (bs.all id)) M
  | .any => ∃ (d : D) (bs : List Bool), ds = [d] ∧ rs M d = .lst (bs.map D.bl) ∧ Q (.bl (bs.any id)) M
  | .str => ∃ i : Int, ds = [.int i] ∧ i.natAbs.log2 < 1920 ∧ Q (.str (toString i)) M
  | .sorted => ∃ (d : D) (ns : List Int), ds = [d] ∧ (d = .scr (ns.map D.int) ∨ rs M d = .lst (ns.map D.int)) ∧ ns.length < 64 ∧ ∀ ns' : List Int, ns'.Perm ns → ns'.Pairwise (· ≤ ·) → newL own (ns'.map D.int) M Q
  | .max1 => ∃ (d : D) (ns : List Int), ds = [d] ∧ rs M d = .lst (ns.map D.int) ∧ 0 < ns.length ∧ ∀ m : Int, m ∈ ns → (∀ y, y ∈ ns → y ≤ m) → Q (.int m) M
  | .min1 => ∃ (d : D) (ns : List Int), ds = [d] ∧ rs M d = .lst (ns.map D.int) ∧ 0 < ns.length ∧ ∀ m : Int, m ∈ ns → (∀ y, y ∈ ns → m ≤ y) → Q (.int m) M
/-- names get values -/
def setAll : List Nat → List D → Env → Env
  | i :: is, d :: ds, ρ => setAll is ds (ρ.set i (some d))
  | _, _, ρ => ρ
def tgW (t : Tg) (d : D) (ρ : Env) (Q : Env → Prop) : Prop :=
  match t with
  | .nm i => Q (ρ.set i (some d))
  | .tu is => ∃ xs, d = .tup xs ∧ xs.length = is.length ∧ Q (setAll is xs ρ)
structure Src where
  xs : List D
  keep : Mem → Prop
/-- [elt for .. in xs if tst] -/
def lcL (keep : Mem → Prop) (tg : D → Env → (Env → Prop) → Prop) (tst : Env → Mem → (Bool → Mem → Prop) → Prop) (elt : Env → Mem → (D → Mem → Prop) → Prop) (ρ : Env) : List D → List D → Mem → (List D → Mem → Prop) → Prop
  | [], acc, M, Q => Q acc M
  | x :: xs, acc, M, Q => tg x ρ fun ρ1 => tst ρ1 M fun b M1 => if b = true then elt ρ1 M1 fun d M2 => acc.length < sizeLine ∧ keep M2 ∧ lcL keep tg tst elt ρ xs (acc ++ [d]) M2 Q else keep M1 ∧ lcL keep tg tst elt ρ xs acc M1 Q
def tgSlots : Tg → List Nat
  | .nm i => [i]
  | .tu is => is
def wipeE (ρ : Env) : List Nat → Env
  | [] => ρ
  | v :: vs => (wipeE ρ vs).set v none
def disp1 (ks : List Str) (ds : List D) : List (Key × D) := (ks.zip ds).map fun p => (.inr p.1, p.2)
/-- what is wanted behind a statement -/
structure SC where
  nx : Env → Mem → Prop
  rt : D → Mem → Prop
  bk : Env → Mem → Prop
  ct : Env → Mem → Prop
def forL (keep : Mem → Prop) (tg : D → Env → (Env → Prop) → Prop) (body : Env → Mem → SC → Prop) : List D → Env → Mem → SC → Prop
  | [], ρ, M, C => C.nx ρ M
  | x :: xs, ρ, M, C => tg x ρ fun ρ1 => body ρ1 M { C with nx := fun ρ' M' => keep M' ∧ forL keep tg body xs ρ' M' C, ct := fun ρ' M' => keep M' ∧ forL keep tg body xs ρ' M' C, bk := C.nx }
abbrev noE : Exn → Mem → Prop := fun _ _ => False
section
variable (Γ : List DSp) (gs : List D)
mutual
def sE : IE → Env → Mem → (D → Mem → Prop) → (Exn → Mem → Prop) → Prop
  | .var i, ρ, M, Q, _ => ∃ d, ρ[i]? = some (some d) ∧ Q d M
  | .cst v, _, M, Q, _ => Q v.d M
  | .glob g, _, M, Q, _ => ∃ d, gs[g]? = some d ∧ Q d M
  | .tup es, ρ, M, Q, E => sEs es ρ M (fun ds M1 => ds.length ≤ sizeLine ∧ Q (.tup ds) M1) E
  | .lst own es, ρ, M, Q, E => sEs es ρ M (fun ds M1 => ds.length ≤ sizeLine ∧ newL own ds M1 Q) E
  | .bin own op a b, ρ, M, Q, E => sE a ρ M (fun x M1 => sE b ρ M1 (fun y M2 => binW own op x y M2 Q) E) E
  | .neg a, ρ, M, Q, E => sE a ρ M (fun x M1 => ∃ i, x = .int i ∧ Q (.int (-i)) M1) E
  | .not a, ρ, M, Q, E => sE a ρ M (fun x M1 => ∃ b, truth M1 x = some b ∧ Q (.bl (!b)) M1) E
  | .and es, ρ, M, Q, E => sAnd es ρ M Q E
  | .or es, ρ, M, Q, E => sOr es ρ M Q E
  | .cmp op a b, ρ, M, Q, E => sE a ρ M (fun x M1 => sE b ρ M1 (fun y M2 => cmpW op x y M2 Q) E) E
  | .chain op op' a b c, ρ, M, Q, E => sE a ρ M (fun x M1 => sE b ρ M1 (fun y M2 => cmpW op x y M2 (fun z M3 => ∃ k, z = .bl k ∧ if k = true then sE c ρ M3 (fun w M4 => cmpW op' y w M4 Q) E else Q (.bl false) M3)) E) E
  | .isN no a, ρ, M, Q, E => sE a ρ M (fun x M1 => Q (.bl (no != isNon x)) M1) E
  | .ite c a b, ρ, M, Q, E => sE c ρ M (fun x M1 => ∃ k, truth M1 x = some k ∧ if k = true then sE a ρ M1 Q E else sE b ρ M1 Q E) E
  | .ix a b, ρ, M, Q, E => sE a ρ M (fun x M1 => sE b ρ M1 (fun y M2 => ixW x y M2 Q) E) E
  | .sl own a lo hi, ρ, M, Q, E => sE a ρ M (fun x M1 => sIO lo ρ M1 (fun l M2 => sIO hi ρ M2 (fun h M3 => slW own x l h M3 Q) E) E) E
  | .call f es, ρ, M, Q, E => sEs es ρ M (fun ds M1 => ∃ sp : DSp, Γ[f]? = some sp ∧ sp.wp ds M1 Q E) E
  | .call0 f, _, M, Q, _ => ∃ sp : DSp, Γ[f]? = some sp ∧ sp.wp [] M Q noE
  | .blt own f es, ρ, M, Q, E => sEs es ρ M (fun ds M1 => bltW own f ds M1 Q) E
  | .isi a ts, ρ, M, Q, E => sE a ρ M (fun x M1 => ∃ b, isTys M1 x ts = some b ∧ Q (.bl b) M1) E
  | .lc own t elt it tst, ρ, M, Q, E => sI it ρ M (fun src M1 => lcL src.keep (tgW t) (fun ρ1 M2 Q2 => sIT tst ρ1 M2 Q2 noE) (fun ρ1 M2 Q2 => sE elt ρ1 M2 Q2 noE) (wipeE ρ (tgSlots t)) src.xs [] M1 fun acc M2 => newL own acc M2 Q) E
  | .dnew tk, _, M, Q, _ => ∀ p, M p = none → Q (.ref p) (put M p (if tk then .dT [] else .dK []))
  | .disp ks es, ρ, M, Q, E => sEs es ρ M (fun ds M1 => ds.length = ks.length ∧ ks.length ≤ 15 ∧ ks.Nodup ∧ ∀ p, M1 p = none → Q (.ref p) (put M1 p (.dK (disp1 ks ds)))) E
  | .pop a, ρ, M, Q, E => sE a ρ M (fun x M1 => ∃ l xs d, x = .ref l ∧ M1 l = some (.lst xs) ∧ xs[xs.length - 1]? = some d ∧ Q d (put M1 l (.lst xs.dropLast))) E
  | .get a k d, ρ, M, Q, E => sE a ρ M (fun x M1 => ∃ l, x = .ref l ∧ (∃ kvs, M1 l = some (.dK kvs)) ∧ sE k ρ M1 (fun y M2 => sE d ρ M2 (fun z M3 => ∃ o, dlook M3 l y = some o ∧ Q (o.getD z) M3) E) E) E
  | .rev own a, ρ, M, Q, E => sE a ρ M (fun x M1 => match x with
      | .tup xs => Q (.tup xs.reverse) M1
      | x => ∃ xs, (x = .scr xs ∨ rs M1 x = .lst xs) ∧ newL own xs.reverse M1 Q) E
def sEs : IEs → Env → Mem → (List D → Mem → Prop) → (Exn → Mem → Prop) → Prop
  | .nil, _, M, Q, _ => Q [] M
  | .cons e es, ρ, M, Q, E => sE e ρ M (fun d M1 => sEs es ρ M1 (fun ds M2 => Q (d :: ds) M2) E) E
def sAnd : IEs → Env → Mem → (D → Mem → Prop) → (Exn → Mem → Prop) → Prop
  | .nil, _, _, _, _ => False
  | .cons e .nil, ρ, M, Q, E => sE e ρ M Q E
  | .cons e (.cons f es), ρ, M, Q, E => sE e ρ M (fun x M1 => ∃ b, truth M1 x = some b ∧ if b = true then sAnd (.cons f es) ρ M1 Q E else Q x M1) E
def sOr : IEs → Env → Mem → (D → Mem → Prop) → (Exn → Mem → Prop) → Prop
  | .nil, _, _, _, _ => False
  | .cons e .nil, ρ, M, Q, E => sE e ρ M Q E
  | .cons e (.cons f es), ρ, M, Q, E => sE e ρ M (fun x M1 => ∃ b, truth M1 x = some b ∧ if b = true then Q x M1 else sOr (.cons f es) ρ M1 Q E) E
def sIO : IO → Env → Mem → (Option Int → Mem → Prop) → (Exn → Mem → Prop) → Prop
  | .none, _, M, Q, _ => Q none M
  | .some e, ρ, M, Q, E => sE e ρ M (fun x M1 => ∃ i, x = .int i ∧ Q (some i) M1) E
def sIT : IO → Env → Mem → (Bool → Mem → Prop) → (Exn → Mem → Prop) → Prop
  | .none, _, M, Q, _ => Q true M
  | .some e, ρ, M, Q, E => sE e ρ M (fun x M1 => ∃ b, truth M1 x = some b ∧ Q b M1) E
def sI : II → Env → Mem → (Src → Mem → Prop) → (Exn → Mem → Prop) → Prop
  | .seq e, ρ, M, Q, E => sE e ρ M (fun d M1 => ∃ xs, seqOf M1 d = some xs ∧ Q ⟨xs, fun M' => seqOf M' d = some xs⟩ M1) E
  | .rng1 a, ρ, M, Q, E => sE a ρ M (fun d M1 => ∃ n : Int, d = .int n ∧ (-(2 ^ 62) ≤ n ∧ n < 2 ^ 62) ∧ Q ⟨(List.range n.toNat).map (fun k => D.int (k : Nat)), fun _ => True⟩ M1) E
  | .rng2 a b, ρ, M, Q, E => sE a ρ M (fun d M1 => sE b ρ M1 (fun e M2 => ∃ m n : Int, d = .int m ∧ e = .int n ∧ (-(2 ^ 62) ≤ m ∧ m < 2 ^ 62 ∧ -(2 ^ 62) ≤ n ∧ n < 2 ^ 62) ∧ Q ⟨(List.range (n - m).toNat).map (fun (k : Nat) => D.int (m + k)), fun _ => True⟩ M2) E) E
end
mutual
def sS : IS → Env → Mem → SC → (Exn → Mem → Prop) → Prop
  | .set i e, ρ, M, C, E => sE Γ gs e ρ M (fun d M1 => C.nx (ρ.set i (some d)) M1) E
  | .par i j a b, ρ, M, C, E => sE Γ gs a ρ M (fun x M1 => sE Γ gs b ρ M1 (fun y M2 => C.nx ((ρ.set i (some x)).set j (some y)) M2) E) E
  | .par3 i j l a b c, ρ, M, C, E => sE Γ gs a ρ M (fun x M1 => sE Γ gs b ρ M1 (fun y M2 => sE Γ gs c ρ M2 (fun z M3 => C.nx (((ρ.set i (some x)).set j (some y)).set l (some z)) M3) E) E) E
  | .unp t e, ρ, M, C, E => sE Γ gs e ρ M (fun d M1 => tgW t d ρ fun ρ1 => C.nx ρ1 M1) E
  | .six o k e, ρ, M, C, E => sE Γ gs e ρ M (fun v M1 => sE Γ gs o ρ M1 (fun x M2 => sE Γ gs k ρ M2 (fun y M3 => ∃ a, x = .ref a ∧ six1 M3 a y v (C.nx ρ)) E) E) E
  | .exp e, ρ, M, C, E => sE Γ gs e ρ M (fun _ M1 => C.nx ρ M1) E
  | .app o e, ρ, M, C, E => sE Γ gs o ρ M (fun x M1 => ∃ a, x = .ref a ∧ (∃ xs, M1 a = some (.lst xs)) ∧ sE Γ gs e ρ M1 (fun d M2 => ∃ xs, M2 a = some (.lst xs) ∧ xs.length < sizeLine ∧ C.nx ρ (put M2 a (.lst (xs ++ [d])))) E) E
  | .ret e, ρ, M, C, E => sE Γ gs e ρ M C.rt E
  | .retN, _, M, C, _ => C.rt .non M
  | .pass, ρ, M, C, _ => C.nx ρ M
  | .brk, ρ, M, C, _ => C.bk ρ M
  | .cont, ρ, M, C, _ => C.ct ρ M
  | .never, _, _, _, _ => False
  | .ite c a b, ρ, M, C, E => sE Γ gs c ρ M (fun x M1 => ∃ k, truth M1 x = some k ∧ if k = true then sSs a ρ M1 C E else sSs b ρ M1 C E) E
  | .for t it body, ρ, M, C, E => sI Γ gs it ρ M (fun src M1 => forL src.keep (tgW t) (fun ρ1 M2 C2 => sSs body ρ1 M2 C2 E) src.xs ρ M1 C) E
  | .while c body, ρ, M, C, E => ∃ W : Nat → Env → Mem → Prop, (∃ m, W m ρ M) ∧ ∀ m ρ M, W m ρ M → sE Γ gs c ρ M (fun x M1 => ∃ k, truth M1 x = some k ∧
      if k = true then sSs body ρ M1 { C with nx := fun ρ' M' => ∃ m', m' < m ∧ W m' ρ' M', ct := fun ρ' M' => ∃ m', m' < m ∧ W m' ρ' M', bk := C.nx } E else C.nx ρ M1) E
def sSs : ISs → Env → Mem → SC → (Exn → Mem → Prop) → Prop
  | .nil, ρ, M, C, _ => C.nx ρ M
  | .cons s ss, ρ, M, C, E => sS s ρ M { C with nx := fun ρ' M' => sSs ss ρ' M' C E } E
end
end
end DL
set_option Elab.async false
set_option linter.all false
set_option maxRecDepth 100000
namespace DL
open PySem PySem.Spec PyProof.Rows L2
section
variable {Q Q' : D → Mem → Prop} (hQ : ∀ d M, Q d M → Q' d M) {M : Mem} {own : Bool} {x y : D} {xs : List D}
include hQ
theorem newL_mono (h : newL own xs M Q) : newL own xs M Q' := by
  cases own with
  | true => exact fun p hp => hQ _ _ (h p hp)
  | false => exact hQ _ _ h
theorem binW_mono {op : BOp} (h : binW own op x y M Q) : binW own op x y M Q' := by
  cases op <;> cases x <;> cases y <;> first
    | exact False.elim h
    | exact hQ _ _ h
    | exact ⟨h.1, hQ _ _ h.2⟩
    | (obtain ⟨xs, ys, h1, h2, h3, h4⟩ := h; exact ⟨xs, ys, h1, h2, h3, newL_mono hQ h4⟩)
    | (obtain ⟨xs, h1, h2, h3⟩ := h; exact ⟨xs, h1, h2, newL_mono hQ h3⟩)
theorem inW_mono {neg : Bool} (h : inW neg x y M Q) : inW neg x y M Q' := by
  cases y <;> first
    | exact False.elim h
    | (obtain ⟨s, h1, h2⟩ := h; exact ⟨s, h1, hQ _ _ h2⟩)
    | exact ⟨h.1, h.2.1, hQ _ _ h.2.2⟩
    | (rcases h with ⟨xs, h1, h2, h3, h4⟩ | ⟨o, h1, h2⟩
       · exact .inl ⟨xs, h1, h2, h3, hQ _ _ h4⟩
       · exact .inr ⟨o, h1, hQ _ _ h2⟩)
theorem cmpW_mono {op : COp} (h : cmpW op x y M Q) : cmpW op x y M Q' := by
  cases op <;> first
    | exact inW_mono hQ h
    | exact ⟨h.1, h.2.1, hQ _ _ h.2.2⟩
    | (obtain ⟨i, j, h1, h2, h3⟩ := h; exact ⟨i, j, h1, h2, hQ _ _ h3⟩)
theorem ixW_mono (h : ixW x y M Q) : ixW x y M Q' := by
  cases x <;> cases y <;> first
    | exact False.elim h
    | (obtain ⟨h0, c, h1, h2⟩ := h; exact ⟨h0, c, h1, hQ _ _ h2⟩)
    | (obtain ⟨c, h1, h2⟩ := h; exact ⟨c, h1, hQ _ _ h2⟩)
    | (rcases h with ⟨xs, i, d, h1, h2, h3, h4⟩ | ⟨o, h1, h2⟩
       · exact .inl ⟨xs, i, d, h1, h2, h3, hQ _ _ h4⟩
       · exact .inr ⟨o, h1, hQ _ _ h2⟩)
theorem slW_mono {lo hi : Option Int} (h : slW own x lo hi M Q) : slW own x lo hi M Q' := by
  cases x <;> first
    | exact hQ _ _ h
    | exact ⟨h.1, hQ _ _ h.2⟩
    | (obtain ⟨xs, h1, h2⟩ := h; exact ⟨xs, h1, newL_mono hQ h2⟩)
theorem bltW_mono {f : BF} {ds : List D} (h : bltW own f ds M Q) : bltW own f ds M Q' := by
  cases f with
  | len =>
    match ds, h with
    | [.str s], h => exact ⟨h.1, hQ _ _ h.2⟩
    | [.ref a], h =>
      rcases h with ⟨xs, h1, h2⟩ | ⟨kvs, h1, h2⟩
      · exact .inl ⟨xs, h1, hQ _ _ h2⟩
      · exact .inr ⟨kvs, h1, hQ _ _ h2⟩
    | [.non], h => obtain ⟨xs, h1, h2⟩ := h; exact ⟨xs, h1, hQ _ _ h2⟩
    | [.bl _], h => obtain ⟨xs, h1, h2⟩ := h; exact ⟨xs, h1, hQ _ _ h2⟩
    | [.int _], h => obtain ⟨xs, h1, h2⟩ := h; exact ⟨xs, h1, hQ _ _ h2⟩
    | [.tup _], h => obtain ⟨xs, h1, h2⟩ := h; exact ⟨xs, h1, hQ _ _ h2⟩
    | [.lst _], h => obtain ⟨xs, h1, h2⟩ := h; exact ⟨xs, h1, hQ _ _ h2⟩
    | [.scr _], h => obtain ⟨xs, h1, h2⟩ := h; exact ⟨xs, h1, hQ _ _ h2⟩
    | [.exn _ _], h => obtain ⟨xs, h1, h2⟩ := h; exact ⟨xs, h1, hQ _ _ h2⟩
    | [], h => exact False.elim h
    | _ :: _ :: _, h => exact False.elim (by unfold bltW at h; simp at h)
  | toint =>
    match ds, h with
    | [.int i], h => exact hQ _ _ h
    | [.bl i], h => exact hQ _ _ h
    | [.str s], h => exact False.elim h
    | [.ref a], h => exact False.elim h
    | [.non], h => exact False.elim h
    | [.tup _], h => exact False.elim h
    | [.lst _], h => exact False.elim h
    | [.scr _], h => exact False.elim h
    | [.exn _ _], h => exact False.elim h
    | [], h => exact False.elim h
    | _ :: _ :: _, h => exact False.elim (by unfold bltW at h; simp at h)
  | abs => obtain ⟨i, h1, h2⟩ := h; exact ⟨i, h1, hQ _ _ h2⟩
  | max2 => obtain ⟨i, j, h1, h2⟩ := h; exact ⟨i, j, h1, hQ _ _ h2⟩
  | min2 => obtain ⟨i, j, h1, h2⟩ := h; exact ⟨i, j, h1, hQ _ _ h2⟩
  | gcd => obtain ⟨i, j, h1, h2⟩ := h; exact ⟨i, j, h1, hQ _ _ h2⟩
  | tuple => obtain ⟨d, xs, h1, h2, h3⟩ := h; exact ⟨d, xs, h1, h2, hQ _ _ h3⟩
  | list => obtain ⟨d, xs, h1, h2, h3⟩ := h; exact ⟨d, xs, h1, h2, newL_mono hQ h3⟩
  | sum => obtain ⟨d, xs, h1, h2, h3⟩ := h; exact ⟨d, xs, h1, h2, hQ _ _ h3⟩
  | all => obtain ⟨d, xs, h1, h2, h3⟩ := h; exact ⟨d, xs, h1, h2, hQ _ _ h3⟩
  | any => obtain ⟨d, xs, h1, h2, h3⟩ := h; exact ⟨d, xs, h1, h2, hQ _ _ h3⟩
  | str => obtain ⟨d, h1, h2, h3⟩ := h; exact ⟨d, h1, h2, hQ _ _ h3⟩
  | sorted => obtain ⟨d, xs, h1, h2, h3, h4⟩ := h; exact ⟨d, xs, h1, h2, h3, fun ns' a b => newL_mono hQ (h4 ns' a b)⟩
  | max1 => obtain ⟨d, xs, h1, h2, h3, h4⟩ := h; exact ⟨d, xs, h1, h2, h3, fun m a b => hQ _ _ (h4 m a b)⟩
  | min1 => obtain ⟨d, xs, h1, h2, h3, h4⟩ := h; exact ⟨d, xs, h1, h2, h3, fun m a b => hQ _ _ (h4 m a b)⟩
end
theorem tgW_mono {t : Tg} {d : D} {ρ : Env} {Q Q' : Env → Prop} (hQ : ∀ ρ, Q ρ → Q' ρ) (h : tgW t d ρ Q) : tgW t d ρ Q' := by
  cases t with
  | nm i => exact hQ _ h
  | tu is => obtain ⟨xs, h1, h2, h3⟩ := h; exact ⟨xs, h1, h2, hQ _ h3⟩
theorem lcL_mono {keep : Mem → Prop} {tg : D → Env → (Env → Prop) → Prop} {tst : Env → Mem → (Bool → Mem → Prop) → Prop} {elt : Env → Mem → (D → Mem → Prop) → Prop} {ρ : Env}
    (hg : ∀ d ρ (Q Q' : Env → Prop), (∀ ρ, Q ρ → Q' ρ) → tg d ρ Q → tg d ρ Q') (ht : ∀ ρ M (Q Q' : Bool → Mem → Prop), (∀ b M, Q b M → Q' b M) → tst ρ M Q → tst ρ M Q')
    (he : ∀ ρ M (Q Q' : D → Mem → Prop), (∀ b M, Q b M → Q' b M) → elt ρ M Q → elt ρ M Q') {Q Q' : List D → Mem → Prop} (hQ : ∀ ds M, Q ds M → Q' ds M) :
    ∀ (xs acc : List D) (M : Mem), lcL keep tg tst elt ρ xs acc M Q → lcL keep tg tst elt ρ xs acc M Q'
  | [], acc, M, h => hQ _ _ h
  | x :: xs, acc, M, h => by
    unfold lcL at h ⊢
    refine hg _ _ _ _ (fun ρ1 h => ht _ _ _ _ (fun b M1 h => ?_) h) h
    cases b with
    | true => exact he _ _ _ _ (fun d M2 h => ⟨h.1, h.2.1, lcL_mono hg ht he hQ xs _ M2 h.2.2⟩) h
    | false => exact ⟨h.1, lcL_mono hg ht he hQ xs _ M1 h.2⟩
/-- a wish is weakened -/
structure SC.Le (C C' : SC) : Prop where
  nx : ∀ ρ M, C.nx ρ M → C'.nx ρ M
  rt : ∀ d M, C.rt d M → C'.rt d M
  bk : ∀ ρ M, C.bk ρ M → C'.bk ρ M
  ct : ∀ ρ M, C.ct ρ M → C'.ct ρ M
theorem forL_mono {keep : Mem → Prop} {tg : D → Env → (Env → Prop) → Prop} {body body' : Env → Mem → SC → Prop}
    (hg : ∀ d ρ (Q Q' : Env → Prop), (∀ ρ, Q ρ → Q' ρ) → tg d ρ Q → tg d ρ Q') (hb : ∀ ρ M (C C' : SC), C.Le C' → body ρ M C → body' ρ M C') {C C' : SC} (hC : C.Le C') :
    ∀ (xs : List D) (ρ : Env) (M : Mem), forL keep tg body xs ρ M C → forL keep tg body' xs ρ M C'
  | [], ρ, M, h => hC.nx _ _ h
  | x :: xs, ρ, M, h => by
    unfold forL at h ⊢
    refine hg _ _ _ _ (fun ρ1 h => hb _ _ _ _ ?_ h) h
    exact ⟨fun ρ M h => ⟨h.1, forL_mono hg hb hC xs ρ M h.2⟩, hC.rt, hC.nx, fun ρ M h => ⟨h.1, forL_mono hg hb hC xs ρ M h.2⟩⟩
section
variable {Γ : List DSp} {gs : List D}
mutual
theorem sE_mono : ∀ (e : IE) {ρ : Env} {M : Mem} {Q Q' : D → Mem → Prop} {E E' : Exn → Mem → Prop}, (∀ d M, Q d M → Q' d M) → (∀ x M, E x M → E' x M) → sE Γ gs e ρ M Q E → sE Γ gs e ρ M Q' E'
  | .var i, ρ, M, Q, Q', E, E', hQ, hE, h => by
    unfold sE at h ⊢
    obtain ⟨d, h1, h2⟩ := h; exact ⟨d, h1, hQ _ _ h2⟩
  | .cst v, ρ, M, Q, Q', E, E', hQ, hE, h => by unfold sE at h ⊢; exact hQ _ _ h
  | .glob v, ρ, M, Q, Q', E, E', hQ, hE, h => by
    unfold sE at h ⊢
    obtain ⟨d, h1, h2⟩ := h; exact ⟨d, h1, hQ _ _ h2⟩
  | .tup es, ρ, M, Q, Q', E, E', hQ, hE, h => by
    unfold sE at h ⊢; exact sEs_mono es (fun ds M h => ⟨h.1, hQ _ _ h.2⟩) hE h
  | .lst own es, ρ, M, Q, Q', E, E', hQ, hE, h => by
    unfold sE at h ⊢; exact sEs_mono es (fun ds M h => ⟨h.1, newL_mono hQ h.2⟩) hE h
  | .bin own op a b, ρ, M, Q, Q', E, E', hQ, hE, h => by
    unfold sE at h ⊢; exact sE_mono a (fun x M1 h => sE_mono b (fun y M2 h => binW_mono hQ h) hE h) hE h
  | .neg a, ρ, M, Q, Q', E, E', hQ, hE, h => by
    unfold sE at h ⊢; exact sE_mono a (fun x M1 ⟨i, h1, h2⟩ => ⟨i, h1, hQ _ _ h2⟩) hE h
  | .not a, ρ, M, Q, Q', E, E', hQ, hE, h => by
    unfold sE at h ⊢; exact sE_mono a (fun x M1 ⟨i, h1, h2⟩ => ⟨i, h1, hQ _ _ h2⟩) hE h
  | .and es, ρ, M, Q, Q', E, E', hQ, hE, h => by
    unfold sE at h ⊢; exact sAnd_mono es hQ hE h
  | .or es, ρ, M, Q, Q', E, E', hQ, hE, h => by
    unfold sE at h ⊢; exact sOr_mono es hQ hE h
  | .cmp op a b, ρ, M, Q, Q', E, E', hQ, hE, h => by
    unfold sE at h ⊢; exact sE_mono a (fun x M1 h => sE_mono b (fun y M2 h => cmpW_mono hQ h) hE h) hE h
  | .chain op op' a b c, ρ, M, Q, Q', E, E', hQ, hE, h => by
    unfold sE at h ⊢
    refine sE_mono a (fun x M1 h => sE_mono b (fun y M2 h => cmpW_mono (fun z M3 ⟨k, h1, h2⟩ => ⟨k, h1, ?_⟩) h) hE h) hE h
    cases k with
    | true => exact sE_mono c (fun w M4 h => cmpW_mono hQ h) hE h2
    | false => exact hQ _ _ h2
  | .isN no a, ρ, M, Q, Q', E, E', hQ, hE, h => by
    unfold sE at h ⊢; exact sE_mono a (fun x M1 h => hQ _ _ h) hE h
  | .ite c a b, ρ, M, Q, Q', E, E', hQ, hE, h => by
    unfold sE at h ⊢
    refine sE_mono c (fun x M1 ⟨k, h1, h2⟩ => ⟨k, h1, ?_⟩) hE h
    cases k with
    | true => exact sE_mono a hQ hE h2
    | false => exact sE_mono b hQ hE h2
  | .ix a b, ρ, M, Q, Q', E, E', hQ, hE, h => by
    unfold sE at h ⊢; exact sE_mono a (fun x M1 h => sE_mono b (fun y M2 h => ixW_mono hQ h) hE h) hE h
  | .sl own a lo hi, ρ, M, Q, Q', E, E', hQ, hE, h => by
    unfold sE at h ⊢; exact sE_mono a (fun x M1 h => sIO_mono lo (fun l M2 h => sIO_mono hi (fun u M3 h => slW_mono hQ h) hE h) hE h) hE h
  | .call f es, ρ, M, Q, Q', E, E', hQ, hE, h => by
    unfold sE at h ⊢; exact sEs_mono es (fun ds M1 ⟨sp, h1, h2⟩ => ⟨sp, h1, sp.mono hQ hE h2⟩) hE h
  | .call0 f, ρ, M, Q, Q', E, E', hQ, hE, h => by
    unfold sE at h ⊢; obtain ⟨sp, h1, h2⟩ := h; exact ⟨sp, h1, sp.mono hQ (fun _ _ h => h) h2⟩
  | .blt own f es, ρ, M, Q, Q', E, E', hQ, hE, h => by
    unfold sE at h ⊢; exact sEs_mono es (fun ds M1 h => bltW_mono hQ h) hE h
  | .isi a ts, ρ, M, Q, Q', E, E', hQ, hE, h => by
    unfold sE at h ⊢; exact sE_mono a (fun x M1 ⟨i, h1, h2⟩ => ⟨i, h1, hQ _ _ h2⟩) hE h
  | .lc own t elt it tst, ρ, M, Q, Q', E, E', hQ, hE, h => by
    unfold sE at h ⊢
    refine sI_mono it (fun src M1 h => ?_) hE h
    refine lcL_mono ?_ ?_ ?_ ?_ _ _ _ h
    · exact fun _ _ _ _ => tgW_mono
    · exact fun _ _ _ _ hb h => sIT_mono tst hb (fun _ _ h => h) h
    · exact fun _ _ _ _ hb h => sE_mono elt hb (fun _ _ h => h) h
    · exact fun ds M2 h => newL_mono hQ h
  | .dnew tk, ρ, M, Q, Q', E, E', hQ, hE, h => by
    unfold sE at h ⊢; exact fun p hp => hQ _ _ (h p hp)
  | .disp ks es, ρ, M, Q, Q', E, E', hQ, hE, h => by
    unfold sE at h ⊢; exact sEs_mono es (fun ds M1 ⟨h1, h2, h3, h4⟩ => ⟨h1, h2, h3, fun p hp => hQ _ _ (h4 p hp)⟩) hE h
  | .pop a, ρ, M, Q, Q', E, E', hQ, hE, h => by
    unfold sE at h ⊢; exact sE_mono a (fun x M1 ⟨l, xs, d, h1, h2, h3, h4⟩ => ⟨l, xs, d, h1, h2, h3, hQ _ _ h4⟩) hE h
  | .get a k d, ρ, M, Q, Q', E, E', hQ, hE, h => by
    unfold sE at h ⊢; exact sE_mono a (fun x M1 ⟨l, h1, h0, h2⟩ => ⟨l, h1, h0, sE_mono k (fun y M2 h => sE_mono d (fun z M3 ⟨o, h1, h2⟩ => ⟨o, h1, hQ _ _ h2⟩) hE h) hE h2⟩) hE h
  | .rev own a, ρ, M, Q, Q', E, E', hQ, hE, h => by
    unfold sE at h ⊢
    refine sE_mono a (fun x M1 h => ?_) hE h
    cases x <;> first
      | exact hQ _ _ h
      | (obtain ⟨xs, h1, h2⟩ := h; exact ⟨xs, h1, newL_mono hQ h2⟩)
theorem sEs_mono : ∀ (e : IEs) {ρ : Env} {M : Mem} {Q Q' : List D → Mem → Prop} {E E' : Exn → Mem → Prop}, (∀ d M, Q d M → Q' d M) → (∀ x M, E x M → E' x M) → sEs Γ gs e ρ M Q E → sEs Γ gs e ρ M Q' E'
  | .nil, ρ, M, Q, Q', E, E', hQ, hE, h => by unfold sEs at h ⊢; exact hQ _ _ h
  | .cons e es, ρ, M, Q, Q', E, E', hQ, hE, h => by
    unfold sEs at h ⊢; exact sE_mono e (fun d M1 h => sEs_mono es (fun ds M2 h => hQ _ _ h) hE h) hE h
theorem sAnd_mono : ∀ (e : IEs) {ρ : Env} {M : Mem} {Q Q' : D → Mem → Prop} {E E' : Exn → Mem → Prop}, (∀ d M, Q d M → Q' d M) → (∀ x M, E x M → E' x M) → sAnd Γ gs e ρ M Q E → sAnd Γ gs e ρ M Q' E'
  | .nil, ρ, M, Q, Q', E, E', hQ, hE, h => by unfold sAnd at h; exact h.elim
  | .cons e .nil, ρ, M, Q, Q', E, E', hQ, hE, h => by unfold sAnd at h ⊢; exact sE_mono e hQ hE h
  | .cons e (.cons f es), ρ, M, Q, Q', E, E', hQ, hE, h => by
    unfold sAnd at h ⊢
    refine sE_mono e (fun x M1 ⟨b, h1, h2⟩ => ⟨b, h1, ?_⟩) hE h
    cases b with
    | true => exact sAnd_mono (.cons f es) hQ hE h2
    | false => exact hQ _ _ h2
theorem sOr_mono : ∀ (e : IEs) {ρ : Env} {M : Mem} {Q Q' : D → Mem → Prop} {E E' : Exn → Mem → Prop}, (∀ d M, Q d M → Q' d M) → (∀ x M, E x M → E' x M) → sOr Γ gs e ρ M Q E → sOr Γ gs e ρ M Q' E'
  | .nil, ρ, M, Q, Q', E, E', hQ, hE, h => by unfold sOr at h; exact h.elim
  | .cons e .nil, ρ, M, Q, Q', E, E', hQ, hE, h => by unfold sOr at h ⊢; exact sE_mono e hQ hE h
  | .cons e (.cons f es), ρ, M, Q, Q', E, E', hQ, hE, h => by
    unfold sOr at h ⊢
    refine sE_mono e (fun x M1 ⟨b, h1, h2⟩ => ⟨b, h1, ?_⟩) hE h
    cases b with
    | true => exact hQ _ _ h2
    | false => exact sOr_mono (.cons f es) hQ hE h2
theorem sIO_mono : ∀ (e : IO) {ρ : Env} {M : Mem} {Q Q' : Option Int → Mem → Prop} {E E' : Exn → Mem → Prop}, (∀ d M, Q d M → Q' d M) → (∀ x M, E x M → E' x M) → sIO Γ gs e ρ M Q E → sIO Γ gs e ρ M Q' E'
  | .none, ρ, M, Q, Q', E, E', hQ, hE, h => by unfold sIO at h ⊢; exact hQ _ _ h
  | .some e, ρ, M, Q, Q', E, E', hQ, hE, h => by
    unfold sIO at h ⊢; exact sE_mono e (fun x M1 ⟨i, h1, h2⟩ => ⟨i, h1, hQ _ _ h2⟩) hE h
theorem sIT_mono : ∀ (e : IO) {ρ : Env} {M : Mem} {Q Q' : Bool → Mem → Prop} {E E' : Exn → Mem → Prop}, (∀ d M, Q d M → Q' d M) → (∀ x M, E x M → E' x M) → sIT Γ gs e ρ M Q E → sIT Γ gs e ρ M Q' E'
  | .none, ρ, M, Q, Q', E, E', hQ, hE, h => by unfold sIT at h ⊢; exact hQ _ _ h
  | .some e, ρ, M, Q, Q', E, E', hQ, hE, h => by
    unfold sIT at h ⊢; exact sE_mono e (fun x M1 ⟨i, h1, h2⟩ => ⟨i, h1, hQ _ _ h2⟩) hE h
theorem sI_mono : ∀ (e : II) {ρ : Env} {M : Mem} {Q Q' : Src → Mem → Prop} {E E' : Exn → Mem → Prop}, (∀ d M, Q d M → Q' d M) → (∀ x M, E x M → E' x M) → sI Γ gs e ρ M Q E → sI Γ gs e ρ M Q' E'
  | .seq e, ρ, M, Q, Q', E, E', hQ, hE, h => by
    unfold sI at h ⊢; exact sE_mono e (fun d M1 ⟨xs, h1, h2⟩ => ⟨xs, h1, hQ _ _ h2⟩) hE h
  | .rng1 a, ρ, M, Q, Q', E, E', hQ, hE, h => by
    unfold sI at h ⊢; exact sE_mono a (fun d M1 ⟨n, h1, h2, h3⟩ => ⟨n, h1, h2, hQ _ _ h3⟩) hE h
  | .rng2 a b, ρ, M, Q, Q', E, E', hQ, hE, h => by
    unfold sI at h ⊢; exact sE_mono a (fun d M1 h => sE_mono b (fun e M2 ⟨m, n, h1, h2, h3, h4⟩ => ⟨m, n, h1, h2, h3, hQ _ _ h4⟩) hE h) hE h
end
theorem six1_mono {M : Mem} {a : Addr} {k e : D} {Q Q' : Mem → Prop} (hQ : ∀ M, Q M → Q' M) (h : six1 M a k e Q) : six1 M a k e Q' := by
  rcases h with ⟨xs, i, j, h1, h2, h3, h4⟩ | ⟨kvs, q, h1, h2, h3, h4⟩
  · exact .inl ⟨xs, i, j, h1, h2, h3, hQ _ h4⟩
  · exact .inr ⟨kvs, q, h1, h2, h3, hQ _ h4⟩
mutual
theorem sS_mono : ∀ (s : IS) {ρ : Env} {M : Mem} {C C' : SC} {E E' : Exn → Mem → Prop}, C.Le C' → (∀ x M, E x M → E' x M) → sS Γ gs s ρ M C E → sS Γ gs s ρ M C' E'
  | .set i e, ρ, M, C, C', E, E', hC, hE, h => by unfold sS at h ⊢; exact sE_mono e (fun d M1 h => hC.nx _ _ h) hE h
  | .par i j a b, ρ, M, C, C', E, E', hC, hE, h => by unfold sS at h ⊢; exact sE_mono a (fun x M1 h => sE_mono b (fun y M2 h => hC.nx _ _ h) hE h) hE h
  | .par3 i j l a b c, ρ, M, C, C', E, E', hC, hE, h => by unfold sS at h ⊢; exact sE_mono a (fun x M1 h => sE_mono b (fun y M2 h => sE_mono c (fun z M3 h => hC.nx _ _ h) hE h) hE h) hE h
  | .unp t e, ρ, M, C, C', E, E', hC, hE, h => by unfold sS at h ⊢; exact sE_mono e (fun d M1 h => tgW_mono (fun ρ h => hC.nx _ _ h) h) hE h
  | .six o k e, ρ, M, C, C', E, E', hC, hE, h => by
    unfold sS at h ⊢
    exact sE_mono e (fun v M1 h => sE_mono o (fun x M2 h => sE_mono k (fun y M3 ⟨a, h1, h2⟩ => ⟨a, h1, six1_mono (fun M h => hC.nx _ _ h) h2⟩) hE h) hE h) hE h
  | .exp e, ρ, M, C, C', E, E', hC, hE, h => by unfold sS at h ⊢; exact sE_mono e (fun d M1 h => hC.nx _ _ h) hE h
  | .app o e, ρ, M, C, C', E, E', hC, hE, h => by
    unfold sS at h ⊢
    exact sE_mono o (fun x M1 ⟨a, h1, h2, h3⟩ => ⟨a, h1, h2, sE_mono e (fun d M2 ⟨xs, h1, h2, h3⟩ => ⟨xs, h1, h2, hC.nx _ _ h3⟩) hE h3⟩) hE h
  | .ret e, ρ, M, C, C', E, E', hC, hE, h => by unfold sS at h ⊢; exact sE_mono e (fun d M1 h => hC.rt _ _ h) hE h
  | .retN, ρ, M, C, C', E, E', hC, hE, h => by unfold sS at h ⊢; exact hC.rt _ _ h
  | .pass, ρ, M, C, C', E, E', hC, hE, h => by unfold sS at h ⊢; exact hC.nx _ _ h
  | .brk, ρ, M, C, C', E, E', hC, hE, h => by unfold sS at h ⊢; exact hC.bk _ _ h
  | .cont, ρ, M, C, C', E, E', hC, hE, h => by unfold sS at h ⊢; exact hC.ct _ _ h
  | .never, ρ, M, C, C', E, E', hC, hE, h => by unfold sS at h; exact h.elim
  | .ite c a b, ρ, M, C, C', E, E', hC, hE, h => by
    unfold sS at h ⊢
    refine sE_mono c (fun x M1 ⟨k, h1, h2⟩ => ⟨k, h1, ?_⟩) hE h
    cases k with
    | true => exact sSs_mono a hC hE h2
    | false => exact sSs_mono b hC hE h2
  | .for t it body, ρ, M, C, C', E, E', hC, hE, h => by
    unfold sS at h ⊢
    refine sI_mono it (fun src M1 h => ?_) hE h
    refine forL_mono ?_ ?_ hC _ _ _ h
    · exact fun _ _ _ _ => tgW_mono
    · exact fun _ _ _ _ hc h => sSs_mono body hc hE h
  | .while c body, ρ, M, C, C', E, E', hC, hE, h => by
    unfold sS at h ⊢
    obtain ⟨W, h1, h2⟩ := h
    refine ⟨W, h1, fun m ρ M w => sE_mono c (fun x M1 ⟨k, h1, h2⟩ => ⟨k, h1, ?_⟩) hE (h2 m ρ M w)⟩
    cases k with
    | true => exact sSs_mono body (C := { C with nx := fun ρ' M' => ∃ m', m' < m ∧ W m' ρ' M', ct := fun ρ' M' => ∃ m', m' < m ∧ W m' ρ' M', bk := C.nx }) (C' := { C' with nx := fun ρ' M' => ∃ m', m' < m ∧ W m' ρ' M', ct := fun ρ' M' => ∃ m', m' < m ∧ W m' ρ' M', bk := C'.nx }) ⟨fun _ _ h => h, hC.rt, hC.nx, fun _ _ h => h⟩ hE h2
    | false => exact hC.nx _ _ h2
theorem sSs_mono : ∀ (s : ISs) {ρ : Env} {M : Mem} {C C' : SC} {E E' : Exn → Mem → Prop}, C.Le C' → (∀ x M, E x M → E' x M) → sSs Γ gs s ρ M C E → sSs Γ gs s ρ M C' E'
  | .nil, ρ, M, C, C', E, E', hC, hE, h => by unfold sSs at h ⊢; exact hC.nx _ _ h
  | .cons s ss, ρ, M, C, C', E, E', hC, hE, h => by
    unfold sSs at h ⊢
    exact sS_mono s (C := { C with nx := fun ρ' M' => sSs Γ gs ss ρ' M' C E }) (C' := { C' with nx := fun ρ' M' => sSs Γ gs ss ρ' M' C' E' }) ⟨fun ρ M h => sSs_mono ss hC hE h, hC.rt, hC.bk, hC.ct⟩ hE h
end
end
end DL
set_option Elab.async false
set_option linter.all false
set_option maxRecDepth 100000
namespace DL
open PySem PySem.Spec PyProof.Rows L2

/-- what follows, from a state (M, H) of the data -/
def kc (K : PySem.W.Frag) (A : An) (ρ : Env) (σ : St) (M : Mem) (H : Hp) (Q : VK) : D → Mem → Prop := fun d M' => ∀ v H', Rep K A.Z M' H' v d → RelS K A ρ M' σ H' → Stp M H M' H' → Q v H'
def kcs (K : PySem.W.Frag) (A : An) (ρ : Env) (σ : St) (M : Mem) (H : Hp) (Q : List V → Hp → Prop) : List D → Mem → Prop := fun d M' => ∀ v H', Reps K A.Z M' H' v d → RelS K A ρ M' σ H' → Stp M H M' H' → Q v H'
def kb (K : PySem.W.Frag) (A : An) (ρ : Env) (σ : St) (M : Mem) (H : Hp) (Q : Bool → Hp → Prop) : Bool → Mem → Prop := fun b M' => ∀ H', RelS K A ρ M' σ H' → Stp M H M' H' → Q b H'
def ko (K : PySem.W.Frag) (A : An) (ρ : Env) (σ : St) (M : Mem) (H : Hp) (Q : Option Int → Hp → Prop) : Option Int → Mem → Prop := fun b M' => ∀ H', RelS K A ρ M' σ H' → Stp M H M' H' → Q b H'
section
variable {K : PySem.W.Frag} {A : An} {ρ : Env} {σ : St} {M M1 : Mem} {H H1 : Hp} {x y v : V} {d e : D}
theorem kc_step {Q : VK} (s : Stp M H M1 H1) : ∀ d M', kc K A ρ σ M H Q d M' → kc K A ρ σ M1 H1 Q d M' := fun _ _ h v H' r R s' => h v H' r R (s.trans s')
/-- a list of the ledger by its data -/
theorem rs_lst (R : RelS K A ρ M σ H) (h : Rep K A.Z M H x d) {ds : List D} (e : rs M d = .lst ds) : ∃ a vs, x = .ref a ∧ H a = some (.lst vs) ∧ Reps K A.Z M H vs ds := by
  cases h with
  | lst h n z r => cases e; exact ⟨_, _, rfl, h, r⟩
  | ref h =>
    rename_i a o
    unfold rs at e
    dsimp only at e
    rw [h] at e
    cases o with
    | lst xs =>
      injection e with e1
      subst e1
      obtain ⟨vs, h1, h2⟩ := R.mem.obj a _ h
      exact ⟨a, vs, rfl, h1, h2⟩
    | dK xs => cases e
    | dT xs => cases e
    | xd xs => cases e
  | _ => cases e
theorem seq_of (R : RelS K A ρ M σ H) (h : Rep K A.Z M H x d) {ds : List D} (e : seqOf M d = some ds) : ∃ a vs, x = .ref a ∧ (SqL K H a vs ∨ SqT K H a vs) ∧ Reps K A.Z M H vs ds := by
  cases h with
  | lst h n z r => cases e; exact ⟨_, _, rfl, .inl (.inl (.inl h)), r⟩
  | tup h r => cases e; exact ⟨_, _, rfl, .inr h.seq, r⟩
  | scr h r => cases e; exact ⟨_, _, rfl, .inl h.seq, r⟩
  | ref h =>
    rename_i a o
    unfold seqOf at e
    dsimp only at e
    rw [h] at e
    cases o with
    | lst xs =>
      injection e with e1
      subst e1
      obtain ⟨vs, h1, h2⟩ := R.mem.obj a _ h
      exact ⟨a, vs, rfl, .inl (.inl (.inl h1)), h2⟩
    | dK xs => cases e
    | dT xs => cases e
    | xd xs => cases e
  | _ => cases e
/-- a list that is read: scr or rs -/
theorem ls_of (R : RelS K A ρ M σ H) (h : Rep K A.Z M H x d) {ds : List D} (e : d = .scr ds ∨ rs M d = .lst ds) : ∃ a vs, x = .ref a ∧ SqL K H a vs ∧ Reps K A.Z M H vs ds := by
  rcases e with e | e
  · subst e
    cases h with
    | scr h r => exact ⟨_, _, rfl, h.seq, r⟩
  · obtain ⟨a, vs, h1, h2, h3⟩ := rs_lst R h e
    exact ⟨a, vs, h1, .inl (.inl h2), h3⟩
theorem newL_use {own : Bool} {vs : List V} {ds : List D} {Q : VK} (R : RelS K A ρ M σ H) (r : Reps K A.Z M H vs ds) (h : newL own ds M (kc K A ρ σ M H Q)) : ∀ p, H p = none → Q (.ref p) (upd H p (.lst vs)) := fun p hp => by
  cases own with
  | true =>
    have hM := R.mem.free hp
    exact h p hM (.ref p) _ (.ref put_same) (R.laidL hp r) (Stp.laidO R.mem hp)
  | false => exact h (.ref p) _ (Rep.newLst R.mem hp r) (R.laid hp) (Stp.laid R.mem hp)
theorem newT_use {vs : List V} {ds : List D} {Q : VK} (R : RelS K A ρ M σ H) (r : Reps K A.Z M H vs ds) (h : kc K A ρ σ M H Q (.tup ds) M) : ∀ p, H p = none → Q (.ref p) (upd H p (.tup vs)) := fun p hp =>
  h (.ref p) _ (Rep.newTup R.mem hp r) (R.laid hp) (Stp.laid R.mem hp)
theorem Reps.rep {vs : List V} {ds : List D} (r : Reps K A.Z M H vs ds) : ∀ n : Nat, Reps K A.Z M H (List.replicate n vs).flatten (List.replicate n ds).flatten
  | 0 => .nil
  | n + 1 => by
    rw [List.replicate_succ, List.replicate_succ, List.flatten_cons, List.flatten_cons]
    exact r.append (r.rep n)
end
section
variable {X : Cx} {A : An} {ρ : Env} {M : Mem} {pins : List (Addr × Obj)} {s : Shared} {σ τ : St} {H : Hp} {x y : V} {v u : Value} {dx dy : D} {Q : VK}
theorem op_fdivG : OpR X (binaryOp .FloorDiv) (rI (fun _ j => j ≠ 0 ∧ j.natAbs.log2 < 9000) fun i j => .int (i.fdiv j)) := opI fun i j _ _ _ _ _ hc q => floordiv_int hc.1 q (.inl (PyProof.noPylong_of_log2 hc.2))
def BOp.op : BOp → Operator
  | .add => .Add | .sub => .Sub | .mul => .Mult | .fdiv => .FloorDiv | .mod => .Mod | .pow => .Pow
theorem bin_sound {own : Bool} {op : BOp} (I : Inv X pins σ H s) (rx : RelV x v) (ry : RelV y u) (R : RelS X.K A ρ M τ H) (hx : Rep X.K A.Z M H x dx) (hy : Rep X.K A.Z M H y dy)
    (h : binW own op dx dy M (kc X.K A ρ τ M H Q)) : wpAny (model X.prog X.w) X.A (binaryOp op.op v u) (EP X pins σ Q) X.xe s := by
  have sc : ∀ {w : V} {d : D}, Rep X.K A.Z M H w d → kc X.K A ρ τ M H Q d M → Q w H := fun r k => k _ _ r R Stp.refl
  have lstadd : (∃ xs ys, rs M dx = .lst xs ∧ rs M dy = .lst ys ∧ xs.length + ys.length ≤ sizeLine ∧ newL own (xs ++ ys) M (kc X.K A ρ τ M H Q)) → wpAny (model X.prog X.w) X.A (binaryOp .Add v u) (EP X pins σ Q) X.xe s := fun ⟨xs, ys, h1, h2, h3, h4⟩ => by
    obtain ⟨a, vs, e1, e2, e3⟩ := rs_lst R hx h1
    obtain ⟨b, ws, f1, f2, f3⟩ := rs_lst R hy h2
    subst e1 f1
    exact op_cat pins s σ H _ _ v u Q I rx ry ⟨a, b, vs, ws, rfl, rfl, e2, f2, by rw [e3.length, f3.length]; exact h3, newL_use R (e3.append f3) h4⟩
  have lstmul : ∀ k, dy = .int k → (∃ xs, rs M dx = .lst xs ∧ (-(2 ^ 63) ≤ k ∧ k < 2 ^ 63 ∧ xs.length * k.toNat ≤ sizeLine) ∧ newL own (repL xs k) M (kc X.K A ρ τ M H Q)) → wpAny (model X.prog X.w) X.A (binaryOp .Mult v u) (EP X pins σ Q) X.xe s := fun k e ⟨xs, h1, h2, h3⟩ => by
    subst e
    cases hy
    obtain ⟨a, vs, e1, e2, e3⟩ := rs_lst R hx h1
    subst e1
    exact op_rep pins s σ H _ _ v u Q I rx ry ⟨a, k, vs, rfl, rfl, e2, h2.1, h2.2.1, by rw [e3.length]; exact h2.2.2, newL_use R (e3.rep _) h3⟩
  cases op with
  | add =>
    cases hx with
    | int i =>
      cases hy with
      | int j => exact op_add pins s σ H _ _ v u Q I rx ry ⟨i, j, rfl, rfl, sc (.int _) h⟩
      | ref h' => exact lstadd h
      | lst h' => exact lstadd h
      | _ => first | exact False.elim h | exact lstadd h
    | str i =>
      cases hy with
      | str j => exact op_add_str pins s σ H _ _ v u Q I rx ry ⟨i, j, rfl, rfl, h.1, sc (.str _) h.2⟩
      | _ => first | exact False.elim h | exact lstadd h
    | tup i r =>
      cases hy with
      | tup j q =>
        rename_i a xs ds b ys es
        refine op_catA pins s σ H _ _ v u Q I rx ry ⟨a, b, xs, ys, rfl, rfl, i.seq, j.seq, by rw [r.length, q.length]; exact h.1, fun e => ?_, fun _ e => ?_, fun _ _ => newT_use R (r.append q) h.2⟩
        · subst e
          cases r
          exact sc (.tup j q) h.2
        · subst e
          cases q
          exact sc (.tup i r) (by rw [← List.append_nil ds]; exact h.2)
      | _ => first | exact False.elim h | exact lstadd h
    | _ => first | exact lstadd h | (cases hy <;> first | exact False.elim h | exact lstadd h)
  | sub =>
    cases hx with
    | int i =>
      cases hy with
      | int j => exact op_sub pins s σ H _ _ v u Q I rx ry ⟨i, j, rfl, rfl, sc (.int _) h⟩
      | _ => exact False.elim h
    | _ => exact False.elim h
  | mul =>
    cases hx with
    | int i =>
      cases hy with
      | int j => exact op_mulW pins s σ H _ _ v u Q I rx ry ⟨i, j, rfl, rfl, h.1, sc (.int _) h.2⟩
      | _ => exact False.elim h
    | tup i r =>
      cases hy with
      | int j =>
        rename_i a xs ds
        obtain ⟨⟨h1, h2, h3, h4⟩, h5⟩ := h
        have hn : xs ≠ [] := fun z => h1 (by subst z; cases r; rfl)
        exact op_repT pins s σ H _ _ v u Q I rx ry ⟨a, j, xs, rfl, rfl, i.seq, hn, h2, h3, by rw [r.length]; exact h4, newT_use R (r.rep _) h5⟩
      | _ => exact False.elim h
    | _ =>
      cases hy with
      | int j => exact lstmul j rfl h
      | _ => exact False.elim h
  | fdiv =>
    cases hx with
    | int i =>
      cases hy with
      | int j => exact op_fdivG pins s σ H _ _ v u Q I rx ry ⟨i, j, rfl, rfl, h.1, sc (.int _) h.2⟩
      | _ => exact False.elim h
    | _ => exact False.elim h
  | mod =>
    cases hx with
    | int i =>
      cases hy with
      | int j => exact op_modN pins s σ H _ _ v u Q I rx ry ⟨i, j, rfl, rfl, h.1, sc (.int _) h.2⟩
      | _ => exact False.elim h
    | _ => exact False.elim h
  | pow =>
    cases hx with
    | int i =>
      cases hy with
      | int j => exact op_pow pins s σ H _ _ v u Q I rx ry ⟨i, j, rfl, rfl, h.1, sc (.int _) h.2⟩
      | _ => exact False.elim h
    | _ => exact False.elim h
end

/-! ### == -/
mutual
def toPy : D → PyData
  | .non => .none | .bl b => .bool b | .int i => .int i | .str s => .str s
  | .tup xs => .tuple (toPys xs)
  | .lst xs => .list (toPys xs)
  | .scr xs => .list (toPys xs)
  | .ref _ => .none
  | .exn _ _ => .none
def toPys : List D → List PyData
  | [] => []
  | x :: xs => toPy x :: toPys xs
end
section
variable {K : PySem.W.Frag} {Z : Addr → Prop} {M : Mem} {H : Hp}
mutual
theorem dp_of : ∀ (n : Nat) (d : D) (v : V), Rep K Z M H v d → eqOk n d = true → Dp K H v (toPy d)
  | n, .non, _, .non, _ => .non
  | n, .bl b, _, .bl _, _ => .bl b
  | n, .int b, _, .int _, _ => .int b
  | n, .str b, _, .str _, _ => .str b
  | 0, .tup _, _, .tup h r, e => by unfold eqOk at e; cases e
  | 0, .lst _, _, .lst h _ _ r, e => by unfold eqOk at e; cases e
  | 0, .scr _, _, .scr h r, e => by unfold eqOk at e; cases e
  | n + 1, .tup ds, _, .tup h r, e => by unfold eqOk at e; unfold toPy; exact .tup h.seq (dps_of n ds _ r e)
  | n + 1, .lst ds, _, .lst h _ _ r, e => by unfold eqOk at e; unfold toPy; exact .lst (.inl (.inl h)) (dps_of n ds _ r e)
  | n + 1, .scr ds, _, .scr h r, e => by unfold eqOk at e; unfold toPy; exact .lst h.seq (dps_of n ds _ r e)
  | n, .ref a, _, .ref _, e => by unfold eqOk at e; cases n <;> cases e
  | n, .exn c a, _, .exn _ _, e => by unfold eqOk at e; cases n <;> cases e
theorem dps_of : ∀ (n : Nat) (ds : List D) (vs : List V), Reps K Z M H vs ds → eqOks n ds = true → DpAll K H vs (toPys ds)
  | n, [], _, .nil, _ => by unfold toPys; exact .nil
  | n, d :: ds, _, .cons h r, e => by
    unfold eqOks at e
    rw [Bool.and_eq_true] at e
    unfold toPys
    exact .cons (dp_of n d _ h e.1) (dps_of n ds _ r e.2)
end
end
mutual
theorem lay_of : ∀ (n : Nat) (d : D), eqOk n d = true → (toPy d).canLay0 = true ∧ (toPy d).depth ≤ n
  | n, .non, _ => ⟨rfl, Nat.zero_le _⟩
  | n, .bl b, _ => ⟨rfl, Nat.zero_le _⟩
  | n, .int b, _ => ⟨rfl, Nat.zero_le _⟩
  | n, .str b, e => ⟨by unfold eqOk at e; exact e, Nat.zero_le _⟩
  | 0, .tup _, e => by unfold eqOk at e; cases e
  | 0, .lst _, e => by unfold eqOk at e; cases e
  | 0, .scr _, e => by unfold eqOk at e; cases e
  | n + 1, .tup ds, e => by
    unfold eqOk at e
    obtain ⟨a, b⟩ := lays_of n ds e
    unfold toPy
    exact ⟨by unfold PyData.canLay0; exact a, by unfold PyData.depth; omega⟩
  | n + 1, .lst ds, e => by
    unfold eqOk at e
    obtain ⟨a, b⟩ := lays_of n ds e
    unfold toPy
    exact ⟨by unfold PyData.canLay0; exact a, by unfold PyData.depth; omega⟩
  | n + 1, .scr ds, e => by
    unfold eqOk at e
    obtain ⟨a, b⟩ := lays_of n ds e
    unfold toPy
    exact ⟨by unfold PyData.canLay0; exact a, by unfold PyData.depth; omega⟩
  | n, .ref a, e => by unfold eqOk at e; cases n <;> cases e
  | n, .exn c a, e => by unfold eqOk at e; cases n <;> cases e
theorem lays_of : ∀ (n : Nat) (ds : List D), eqOks n ds = true → PyData.canLayAll0 (toPys ds) = true ∧ PyData.depthAll (toPys ds) ≤ n
  | n, [], _ => ⟨rfl, Nat.zero_le _⟩
  | n, d :: ds, e => by
    unfold eqOks at e
    rw [Bool.and_eq_true] at e
    obtain ⟨a, b⟩ := lay_of n d e.1
    obtain ⟨a', b'⟩ := lays_of n ds e.2
    unfold toPys PyData.canLayAll0 PyData.depthAll
    exact ⟨by rw [a, a']; rfl, Nat.max_le.mpr ⟨b, b'⟩⟩
end
theorem shaped_of {n : Nat} {d : D} (e : eqOk n d = true) (hn : n ≤ 64) : SeqAt.shaped (toPy d) = true := by
  obtain ⟨a, b⟩ := lay_of n d e
  show ((toPy d).canLay0 && decide ((toPy d).depth ≤ 64)) = true
  rw [a, decide_eq_true (Nat.le_trans b hn)]
  rfl
theorem shapeds_of {n : Nat} {ds : List D} (e : eqOks n ds = true) (hn : n < 64) : SeqAt.shaped (.list (toPys ds)) = true := by
  obtain ⟨a, b⟩ := lays_of n ds e
  show (PyData.canLay0 (.list (toPys ds)) && decide (PyData.depth (.list (toPys ds)) ≤ 64)) = true
  unfold PyData.canLay0 PyData.depth
  rw [a, decide_eq_true (by omega)]
  rfl
mutual
theorem eqv_of : ∀ (n m : Nat) (d e : D), eqOk n d = true → eqOk m e = true → PyData.eqv (toPy d) (toPy e) = deq d e := fun n m d e h1 h2 => by
  cases d <;> cases e <;> first
    | rfl
    | (unfold toPy deq PyData.eqv; rfl)
    | (cases n <;> first | (unfold eqOk at h1; cases h1; done) | (cases m <;> first | (unfold eqOk at h2; cases h2; done) | (unfold eqOk at h1 h2; unfold toPy deq PyData.eqv; exact eqvs_of _ _ _ _ h1 h2)))
    | (unfold eqOk at h1; cases n <;> cases h1; done)
    | (unfold eqOk at h2; cases m <;> cases h2; done)
    | skip
theorem eqvs_of : ∀ (n m : Nat) (ds es : List D), eqOks n ds = true → eqOks m es = true → PyData.eqvAll (toPys ds) (toPys es) = deqs ds es := fun n m ds es h1 h2 => by
  cases ds with
  | nil => cases es <;> (unfold toPys deqs PyData.eqvAll; rfl)
  | cons d ds =>
    cases es with
    | nil => unfold toPys deqs PyData.eqvAll; rfl
    | cons e es =>
      unfold eqOks at h1 h2
      rw [Bool.and_eq_true] at h1 h2
      unfold toPys deqs PyData.eqvAll
      rw [eqv_of n m d e h1.1 h2.1, eqvs_of n m ds es h1.2 h2.2]
end
end DL
set_option Elab.async false
set_option linter.all false
set_option maxRecDepth 100000
namespace DL
open PySem PySem.Spec PyProof.Rows L2

section
variable {X : Cx} {A : An} {ρ : Env} {M : Mem} {pins : List (Addr × Obj)} {s : Shared} {σ τ : St} {H : Hp} {x y : V} {v u : Value} {dx dy : D} {Q : VK}
/-- == on what is read -/
theorem rs_dp {K : PySem.W.Frag} (R : RelS K A ρ M τ H) (h : Rep K A.Z M H x dx) {n : Nat} (e : eqOk n (rs M dx) = true) : Dp K H x (toPy (rs M dx)) := by
  cases h with
  | ref h =>
    rename_i a o
    cases o with
    | lst xs =>
      have e1 : rs M (.ref a) = .lst xs := by unfold rs; dsimp only; rw [h]
      rw [e1] at e ⊢
      obtain ⟨vs, h1, h2⟩ := R.mem.obj a _ h
      cases n with
      | zero => unfold eqOk at e; cases e
      | succ n =>
        unfold eqOk at e
        unfold toPy
        exact .lst (.inl (.inl h1)) (dps_of n xs _ h2 e)
    | dK xs =>
      have e1 : rs M (.ref a) = .ref a := by unfold rs; dsimp only; rw [h]
      rw [e1] at e; cases n <;> (unfold eqOk at e; cases e)
    | dT xs =>
      have e1 : rs M (.ref a) = .ref a := by unfold rs; dsimp only; rw [h]
      rw [e1] at e; cases n <;> (unfold eqOk at e; cases e)
    | xd xs =>
      have e1 : rs M (.ref a) = .ref a := by unfold rs; dsimp only; rw [h]
      rw [e1] at e; cases n <;> (unfold eqOk at e; cases e)
  | non => exact dp_of (Z := A.Z) (M := M) n _ _ .non e
  | bl b => exact dp_of (Z := A.Z) (M := M) n _ _ (.bl b) e
  | int b => exact dp_of (Z := A.Z) (M := M) n _ _ (.int b) e
  | str b => exact dp_of (Z := A.Z) (M := M) n _ _ (.str b) e
  | tup a b => exact dp_of (Z := A.Z) (M := M) n _ _ (.tup a b) e
  | lst a b c d => exact dp_of (Z := A.Z) (M := M) n _ _ (.lst a b c d) e
  | scr a b => exact dp_of (Z := A.Z) (M := M) n _ _ (.scr a b) e
  | exn c a => exact dp_of (Z := A.Z) (M := M) n _ _ (.exn c a) e
theorem flat_eq {z d : D} {vz vx : V} {K : PySem.W.Frag} {Z : Addr → Prop} (hz : Rep K Z M H vz z) (hx : Rep K Z M H vx d) (f1 : flatD z = true) (f2 : flatD d = true) : eqV vz vx = deq z d := by
  cases hz <;> first | (cases f1; done) | (cases hx <;> first | (cases f2; done) | (unfold deq eqV; rfl))
theorem flat_v {z : D} {vz : V} {K : PySem.W.Frag} {Z : Addr → Prop} (hz : Rep K Z M H vz z) (f1 : flatD z = true) : flatV vz = true := by
  cases hz <;> first | rfl | (cases f1; done)
theorem flats_v {K : PySem.W.Frag} {Z : Addr → Prop} : ∀ {vs : List V} {ds : List D}, Reps K Z M H vs ds → ds.all flatD = true → vs.all flatV = true
  | _, _, .nil, _ => rfl
  | _, _, .cons a r, f => by
    rw [List.all_cons, Bool.and_eq_true] at f ⊢
    exact ⟨flat_v a f.1, flats_v r f.2⟩
theorem flats_any {K : PySem.W.Frag} {Z : Addr → Prop} (hx : Rep K Z M H x dx) (fx : flatD dx = true) : ∀ {vs : List V} {ds : List D}, Reps K Z M H vs ds → ds.all flatD = true → (vs.any fun z => eqV z x) = ds.any fun z => deq z dx
  | _, _, .nil, _ => rfl
  | _, _, .cons a r, f => by
    rw [List.all_cons, Bool.and_eq_true] at f
    rw [List.any_cons, List.any_cons, flat_eq a hx f.1 fx, flats_any hx fx r f.2]
theorem eqs_any {n m : Nat} (h2 : eqOk m dx = true) : ∀ (ds : List D), eqOks n ds = true → ((toPys ds).any fun z => PyData.eqv z (toPy dx)) = ds.any fun z => deq z dx
  | [], _ => rfl
  | d :: ds, h => by
    unfold eqOks at h
    rw [Bool.and_eq_true] at h
    unfold toPys
    rw [List.any_cons, List.any_cons, eqv_of n m d dx h.1 h2, eqs_any h2 ds h.2]
/-- keys -/
theorem key_rel {K : PySem.W.Frag} {Z : Addr → Prop} {d : D} {k : Key} (h : Rep K Z M H x d) (e : keyOf d = some k) : x = kV k := by
  cases h <;> first | (cases e; rfl) | (unfold keyOf at e; cases e; done)
theorem krep_val {K : PySem.W.Frag} {Z : Addr → Prop} {κ : Type} [DecidableEq κ] (k : κ) : ∀ {vs : List (κ × V)} {ds : List (κ × D)}, KRep K Z M H vs ds → (valV vs k = none ∧ look ds k = none) ∨ ∃ w d, valV vs k = some w ∧ look ds k = some d ∧ Rep K Z M H w d
  | _, _, .nil => .inl ⟨rfl, rfl⟩
  | _, _, .cons (a := p) (b := q) (l₁ := vs) (l₂ := ds) a r => by
    by_cases e : p.1 = k
    · refine .inr ⟨p.2, q.2, valV_pos e, ?_, a.2⟩
      unfold look
      rw [List.find?_cons_of_pos (by simp [← a.1, e])]
      rfl
    · rw [valV_neg e]
      have e2 : look (q :: ds) k = look ds k := by
        unfold look
        rw [List.find?_cons_of_neg (by simp [← a.1, e])]
      rw [e2]
      exact krep_val k r
theorem krep_put {K : PySem.W.Frag} {Z : Addr → Prop} {κ : Type} [DecidableEq κ] {k : κ} {w : V} {d : D} (hw : Rep K Z M H w d) {vs : List (κ × V)} {ds : List (κ × D)} (r : KRep K Z M H vs ds) : KRep K Z M H (putK vs k w) (putD ds k d) := by
  have keys : ∀ {vs : List (κ × V)} {ds : List (κ × D)}, KRep K Z M H vs ds → (vs.any fun kv => decide (kv.1 = k)) = ds.any fun kv => decide (kv.1 = k) := by
    intro vs ds r
    induction r with
    | nil => rfl
    | cons a r ih => rw [List.any_cons, List.any_cons, ih, a.1]
  have repl : ∀ {vs : List (κ × V)} {ds : List (κ × D)}, KRep K Z M H vs ds → KRep K Z M H (vs.map fun kv => if kv.1 = k then (kv.1, w) else kv) (ds.map fun kv => if kv.1 = k then (kv.1, d) else kv) := by
    intro vs ds r
    induction r with
    | nil => exact .nil
    | cons a r ih =>
      rw [List.map_cons, List.map_cons]
      refine .cons ?_ ih
      rw [a.1]
      split
      · exact ⟨rfl, hw⟩
      · exact a
  have app : ∀ {vs : List (κ × V)} {ds : List (κ × D)}, KRep K Z M H vs ds → KRep K Z M H (vs ++ [(k, w)]) (ds ++ [(k, d)]) := by
    intro vs ds r
    induction r with
    | nil => exact .cons ⟨rfl, hw⟩ .nil
    | cons a r ih => exact .cons a ih
  unfold putK putD
  rw [keys r]
  split
  · exact repl r
  · exact app r
theorem krep_len {K : PySem.W.Frag} {Z : Addr → Prop} {κ : Type} : ∀ {vs : List (κ × V)} {ds : List (κ × D)}, KRep K Z M H vs ds → vs.length = ds.length
  | _, _, .nil => rfl
  | _, _, .cons _ r => congrArg (· + 1) (krep_len r)
theorem dget_of {K : PySem.W.Frag} {a : Addr} {k : V} {dk : D} {o : Option D} (R : RelS K A ρ M σ H) (h : Rep K A.Z M H k dk) (e : dlook M a dk = some o) :
    (∃ vs, H a = some (.dK vs)) ∧ ∃ o', DGet H a k o' ∧ ((o' = none ∧ o = none) ∨ ∃ w d, o' = some w ∧ o = some d ∧ Rep K A.Z M H w d) := by
  unfold dlook at e
  cases q : M a with
  | none => rw [q] at e; cases e
  | some ob =>
    rw [q] at e
    cases ob with
    | dK kvs =>
      dsimp only at e
      cases z : keyOf dk with
      | none => rw [z] at e; cases e
      | some kk =>
        rw [z] at e
        obtain ⟨vs, h1, h2⟩ := R.mem.obj a _ q
        have e1 : look kvs kk = o := Option.some.inj e
        rw [key_rel h z]
        refine ⟨⟨vs, h1⟩, _, DGet.k h1, ?_⟩
        rw [← e1]
        rcases krep_val kk h2 with ⟨a1, a2⟩ | ⟨w, d, a1, a2, a3⟩
        · exact .inl ⟨a1, a2⟩
        · exact .inr ⟨w, d, a1, a2, a3⟩
    | lst xs => cases e
    | dT xs => cases e
    | xd xs => cases e
def COp.op : COp → CmpOp
  | .eq => .Eq | .ne => .NotEq | .lt => .Lt | .le => .LtE | .gt => .Gt | .ge => .GtE | .isin => .In | .notin => .NotIn
theorem in_sound {neg : Bool} (hu : X.A.units + 65 < cLine) (I : Inv X pins σ H s) (rx : RelV x v) (ry : RelV y u) (R : RelS X.K A ρ M τ H) (hx : Rep X.K A.Z M H x dx) (hy : Rep X.K A.Z M H y dy)
    (h : inW neg dx dy M (kc X.K A ρ τ M H Q)) : wpAny (model X.prog X.w) X.A (compareOp (if neg then .NotIn else .In) v u) (EP X pins σ Q) X.xe s := by
  have fin : ∀ (b : Bool), kc X.K A ρ τ M H Q (.bl (neg != b)) M → Q (.bl (if neg then !b else b)) H := fun b k => by
    have := k _ _ (.bl _) R Stp.refl
    cases neg <;> cases b <;> exact this
  have deep : ∀ (xs : List D) (a : Addr) (vs : List V), y = .ref a → SqL X.K H a vs → Reps X.K A.Z M H vs xs → eqOk 60 dx = true → eqOks 60 xs = true → kc X.K A ρ τ M H Q (.bl (neg != xs.any fun z => deq z dx)) M →
      wpAny (model X.prog X.w) X.A (compareOp (if neg then .NotIn else .In) v u) (EP X pins σ Q) X.xe s := fun xs a vs e1 e2 e3 o1 o2 k => by
    have q := fin _ k
    rw [← eqs_any o1 xs o2] at q
    subst e1
    cases neg with
    | true => exact op_notInD hu pins s σ H x (.ref a) v u Q I rx ry ⟨toPy dx, toPys xs, dp_of 60 _ _ hx o1, .lst e2 (dps_of 60 xs _ e3 o2), shaped_of o1 (by decide), shapeds_of o2 (by decide), q⟩
    | false => exact op_inD hu pins s σ H x (.ref a) v u Q I rx ry ⟨toPy dx, toPys xs, dp_of 60 _ _ hx o1, .lst e2 (dps_of 60 xs _ e3 o2), shaped_of o1 (by decide), shapeds_of o2 (by decide), q⟩
  cases hy with
  | str t =>
    obtain ⟨z, e, k⟩ := h
    subst e
    cases hx
    have q := fin _ k
    cases neg with
    | true => exact op_notin_str pins s σ H _ _ v u Q I rx ry ⟨z, t, rfl, rfl, q⟩
    | false => exact op_in_str pins s σ H _ _ v u Q I rx ry ⟨z, t, rfl, rfl, q⟩
  | tup ht r =>
    obtain ⟨f1, f2, k⟩ := h
    have q := fin _ k
    rw [← flats_any hx f1 r f2] at q
    cases neg with
    | true => exact op_notIn_seq pins s σ H _ _ v u Q I rx ry ⟨_, _, rfl, .inr ht.seq, flat_v hx f1, flats_v r f2, q⟩
    | false => exact op_in_seq pins s σ H _ _ v u Q I rx ry ⟨_, _, rfl, .inr ht.seq, flat_v hx f1, flats_v r f2, q⟩
  | lst h1 h2 h3 r => exact deep _ _ _ rfl (.inl (.inl h1)) r h.1 h.2.1 h.2.2
  | scr h1 r => exact deep _ _ _ rfl h1.seq r h.1 h.2.1 h.2.2
  | ref hr =>
    rename_i a o
    rcases h with ⟨xs, e, o1, o2, k⟩ | ⟨o, e, k⟩
    · obtain ⟨vs, h1, h2⟩ := R.mem.obj a _ e
      exact deep xs a vs rfl (.inl (.inl h1)) h2 o1 o2 k
    · obtain ⟨_, o', g, w⟩ := dget_of R hx e
      have q := fin _ k
      have eq : o'.isSome = o.isSome := by
        rcases w with ⟨rfl, rfl⟩ | ⟨_, _, rfl, rfl, _⟩ <;> rfl
      rw [← eq] at q
      cases ry
      cases neg with
      | true => exact d_notIn (by omega) I g rx fun s' I' => ⟨.bl _, H, I', rfl, q⟩
      | false => exact d_in (by omega) I g rx fun s' I' => ⟨.bl _, H, I', rfl, q⟩
  | _ => exact False.elim h
theorem cmp_sound {op : COp} (hu : X.A.units + 65 < cLine) (I : Inv X pins σ H s) (rx : RelV x v) (ry : RelV y u) (R : RelS X.K A ρ M τ H) (hx : Rep X.K A.Z M H x dx) (hy : Rep X.K A.Z M H y dy)
    (h : cmpW op dx dy M (kc X.K A ρ τ M H Q)) : wpAny (model X.prog X.w) X.A (compareOp op.op v u) (EP X pins σ Q) X.xe s := by
  have sc : ∀ {b : Bool}, kc X.K A ρ τ M H Q (.bl b) M → Q (.bl b) H := fun k => k _ _ (.bl _) R Stp.refl
  cases op with
  | eq =>
    obtain ⟨o1, o2, k⟩ := h
    exact op_eqD (by omega) pins s σ H _ _ v u Q I rx ry ⟨_, _, rs_dp R hx o1, rs_dp R hy o2, shaped_of o1 (by decide), shaped_of o2 (by decide), by rw [eqv_of 64 64 _ _ o1 o2]; exact sc k⟩
  | ne =>
    obtain ⟨o1, o2, k⟩ := h
    exact op_neD (by omega) pins s σ H _ _ v u Q I rx ry ⟨_, _, rs_dp R hx o1, rs_dp R hy o2, shaped_of o1 (by decide), shaped_of o2 (by decide), by rw [eqv_of 64 64 _ _ o1 o2]; exact sc k⟩
  | isin => exact in_sound (neg := false) hu I rx ry R hx hy h
  | notin => exact in_sound (neg := true) hu I rx ry R hx hy h
  | lt => obtain ⟨i, j, rfl, rfl, k⟩ := h; cases hx; cases hy; exact op_lt pins s σ H _ _ v u Q I rx ry ⟨i, j, rfl, rfl, sc k⟩
  | le => obtain ⟨i, j, rfl, rfl, k⟩ := h; cases hx; cases hy; exact op_le pins s σ H _ _ v u Q I rx ry ⟨i, j, rfl, rfl, sc k⟩
  | gt => obtain ⟨i, j, rfl, rfl, k⟩ := h; cases hx; cases hy; exact op_gt pins s σ H _ _ v u Q I rx ry ⟨i, j, rfl, rfl, sc k⟩
  | ge => obtain ⟨i, j, rfl, rfl, k⟩ := h; cases hx; cases hy; exact op_ge pins s σ H _ _ v u Q I rx ry ⟨i, j, rfl, rfl, sc k⟩
/-- truth -/
theorem truth_of {K : PySem.W.Frag} (R : RelS K A ρ M σ H) (h : Rep K A.Z M H x dx) {b : Bool} (e : truth M dx = some b) : TruV K x H b := by
  have emp : ∀ {vs : List V} {ds : List D}, Reps K A.Z M H vs ds → (!ds.isEmpty) = !vs.isEmpty := fun r => by
    cases r <;> rfl
  cases h with
  | non => cases e; rfl
  | bl b => cases e; rfl
  | int b => cases e; rfl
  | str z =>
    unfold truth at e
    dsimp only at e
    split at e
    · rename_i hz
      cases e
      refine ⟨hz, ?_⟩
      by_cases q : z.length = 0
      · rw [q]; rfl
      · have q2 : ((z.length : Int) != 0) = true := by simp; omega
        rw [q2]
        simp; omega
    · cases e
  | tup h r => cases e; exact .inr (.inl ⟨_, h.seq, emp r⟩)
  | lst h _ _ r => cases e; exact .inl ⟨_, .inl (.inl h), emp r⟩
  | scr h r => cases e; exact .inl ⟨_, h.seq, emp r⟩
  | ref h =>
    rename_i a o
    unfold truth at e
    dsimp only at e
    rw [h] at e
    cases o with
    | lst xs =>
      cases e
      obtain ⟨vs, h1, h2⟩ := R.mem.obj a _ h
      exact .inl ⟨_, .inl (.inl h1), emp h2⟩
    | dK xs =>
      cases e
      obtain ⟨vs, h1, h2⟩ := R.mem.obj a _ h
      refine .inr (.inr ⟨_, h1, ?_⟩)
      cases h2 <;> rfl
    | dT xs => cases e
    | xd xs => cases e
  | exn => cases e
/-- places -/
theorem Reps.atI {K : PySem.W.Frag} {Z : Addr → Prop} {vs : List V} {ds : List D} (r : Reps K Z M H vs ds) {i : Int} {d : D} (e : atI ds i = some d) : ∃ w, atI vs i = some w ∧ Rep K Z M H w d := by
  unfold L2.atI at e ⊢
  rw [r.length]
  cases q : ixN ds.length i with
  | none => rw [q] at e; cases e
  | some j =>
    rw [q] at e
    obtain ⟨w, h1, h2⟩ := r.get (i := j) (d := d) e
    exact ⟨w, h1, h2⟩
theorem ix_sound {value slice : Expr} (hu : X.A.units + 65 < cLine) (I : Inv X pins σ H s) (rx : RelV x v) (ry : RelV y u) (R : RelS X.K A ρ M τ H) (hx : Rep X.K A.Z M H x dx) (hy : Rep X.K A.Z M H y dy)
    (h : ixW dx dy M (kc X.K A ρ τ M H Q)) (hs : subscripted slice false v u = operate [v, u] (getItem v u)) : wpAny (model X.prog X.w) X.A (subscriptTail value slice v u) (EP X pins σ Q) X.xe s := by
  have sc : ∀ {w : V} {d : D}, Rep X.K A.Z M H w d → kc X.K A ρ τ M H Q d M → Q w H := fun r k => k _ _ r R Stp.refl
  cases hx with
  | str z =>
    cases hy with
    | int i =>
      obtain ⟨hz, c, h1, h2⟩ := h
      exact ix_str value slice pins s σ H _ _ v u Q I rx ry ⟨z, i, c, rfl, rfl, hz, h1, sc (.str _) h2⟩ hs
    | _ => exact False.elim h
  | tup ht r =>
    cases hy with
    | int i =>
      obtain ⟨d, h1, h2⟩ := h
      obtain ⟨w, e1, e2⟩ := r.atI h1
      exact ix_tup value slice pins s σ H _ _ v u Q I rx ry ⟨_, _, i, w, rfl, rfl, ht.seq, e1, sc e2 h2⟩ hs
    | _ => exact False.elim h
  | lst ht _ _ r =>
    cases hy with
    | int i =>
      obtain ⟨d, h1, h2⟩ := h
      obtain ⟨w, e1, e2⟩ := r.atI h1
      exact ix_list value slice pins s σ H _ _ v u Q I rx ry ⟨_, _, i, w, rfl, rfl, .inl (.inl ht), e1, sc e2 h2⟩ hs
    | _ => exact False.elim h
  | scr ht r =>
    cases hy with
    | int i =>
      obtain ⟨d, h1, h2⟩ := h
      obtain ⟨w, e1, e2⟩ := r.atI h1
      exact ix_list value slice pins s σ H _ _ v u Q I rx ry ⟨_, _, i, w, rfl, rfl, ht.seq, e1, sc e2 h2⟩ hs
    | _ => exact False.elim h
  | ref hr =>
    rename_i a o
    have h : (∃ xs i d, M a = some (.lst xs) ∧ dy = .int i ∧ L2.atI xs i = some d ∧ kc X.K A ρ τ M H Q d M) ∨ (∃ d, dlook M a dy = some (some d) ∧ kc X.K A ρ τ M H Q d M) := by
      cases dy <;> exact h
    rcases h with ⟨xs, i, d, e, rfl, h1, h2⟩ | ⟨d, e, k⟩
    · obtain ⟨vs, g1, g2⟩ := R.mem.obj a _ e
      obtain ⟨w, e1, e2⟩ := g2.atI h1
      cases hy
      exact ix_list value slice pins s σ H _ _ v u Q I rx ry ⟨_, _, i, w, rfl, rfl, .inl (.inl g1), e1, sc e2 h2⟩ hs
    · obtain ⟨⟨vs, hd⟩, o', g, w⟩ := dget_of R hy e
      cases rx
      rcases w with ⟨_, w⟩ | ⟨w, d', rfl, e2, r⟩
      · cases w
      · cases e2
        exact tail_any (dict_typeIs I g) F.slot_dict_getitem.lookup (d_getItem (by omega) I g ry fun w' s' I' r' => ⟨w, H, I', r', sc r k⟩) hs
  | _ => exact False.elim h
/-- slices -/
theorem Reps.cut {K : PySem.W.Frag} {Z : Addr → Prop} {vs : List V} {ds : List D} (r : Reps K Z M H vs ds) (lo hi : Option Int) : Reps K Z M H (cutV vs lo hi) (cutD ds lo hi) := by
  unfold cutV cutD
  rw [r.length]
  exact (r.drop _).take _
def rSl (X : Cx) (A : An) (ρ : Env) (τ : St) (own : Bool) : V → Option Int → Option Int → Hp → VK → Prop := fun x lo hi H Q => ∃ M d, RelS X.K A ρ M τ H ∧ Rep X.K A.Z M H x d ∧ slW own d lo hi M (kc X.K A ρ τ M H Q)
theorem sl_sound {own : Bool} {lo hi : Option Int} {sl : Addr} {vl vu : Value} (I : Inv X pins σ H s) (rx : RelV x v) (hs : s.heap.IsSliceOf sl vl vu .none) (pl : IsPart vl lo) (pu : IsPart vu hi) (R : RelS X.K A ρ M τ H) (hx : Rep X.K A.Z M H x dx)
    (h : slW own dx lo hi M (kc X.K A ρ τ M H Q)) :
    ∃ T id, typeLookup (.type T) "__getitem__" = pure (some (.builtin id)) ∧ s.TypeIs v T ∧ wpAny (model X.prog X.w) X.A (getItem v (.ref sl)) (EP X pins σ Q) X.xe s := by
  have sc : ∀ {w : V} {d : D}, Rep X.K A.Z M H w d → kc X.K A ρ τ M H Q d M → Q w H := fun r k => k _ _ r R Stp.refl
  have lists : (∃ xs, (dx = .scr xs ∨ rs M dx = .lst xs) ∧ newL own (cutD xs lo hi) M (kc X.K A ρ τ M H Q)) → ∃ T id, typeLookup (.type T) "__getitem__" = pure (some (.builtin id)) ∧ s.TypeIs v T ∧ wpAny (model X.prog X.w) X.A (getItem v (.ref sl)) (EP X pins σ Q) X.xe s := fun ⟨xs, e, k⟩ => by
    obtain ⟨a, vs, rfl, h1, h2⟩ := ls_of R hx e
    exact sl_list pins s σ H _ v vl vu lo hi sl Q I rx hs pl pu ⟨a, vs, rfl, h1, newL_use R (h2.cut lo hi) k⟩
  cases hx with
  | tup ht r =>
    rename_i a xs ds
    refine sl_tupA pins s σ H _ v vl vu lo hi sl Q I rx hs pl pu ⟨a, xs, rfl, ht.seq, fun ⟨z1, z2⟩ => ?_, fun _ => newT_use R (r.cut lo hi) h⟩
    have e : cutD ds lo hi = ds := by
      unfold cutD
      rw [← r.length, z1, z2, List.drop_zero, Nat.sub_zero, r.length, List.take_length]
    refine sc (.tup ht r) ?_
    have h' : kc X.K A ρ τ M H Q (.tup (cutD ds lo hi)) M := h
    rw [e] at h'
    exact h'
  | str z => exact sl_str pins s σ H _ v vl vu lo hi sl Q I rx hs pl pu ⟨z, rfl, h.1, sc (.str _) h.2⟩
  | _ => exact lists h
end
end DL
set_option Elab.async false
set_option linter.all false
set_option maxRecDepth 100000
namespace DL
open PySem PySem.Spec PyProof.Rows L2

def BF.val : BF → Value
  | .len => .builtin "len" | .toint => .type "int" | .abs => .builtin "abs" | .max2 => .builtin "max" | .min2 => .builtin "min" | .gcd => .builtin "math.gcd" | .tuple => .type "tuple"
  | .list => .type "list" | .sum => .builtin "sum" | .all => .builtin "all" | .any => .builtin "any" | .sorted => .builtin "sorted" | .str => .type "str" | .max1 => .builtin "max" | .min1 => .builtin "min"
section
variable {X : Cx} {A : An} {ρ : Env} {M : Mem} {pins : List (Addr × Obj)} {s : Shared} {σ τ : St} {H : Hp} {x y : V} {v u : Value} {dx dy : D} {Q : VK} {vs : List V} {us : List Value} {ds : List D}
theorem Reps.one {K : PySem.W.Frag} {Z : Addr → Prop} {d : D} (r : Reps K Z M H vs [d]) : ∃ x, vs = [x] ∧ Rep K Z M H x d := by
  cases r with
  | cons a r => cases r; exact ⟨_, rfl, a⟩
theorem Reps.two {K : PySem.W.Frag} {Z : Addr → Prop} {d e : D} (r : Reps K Z M H vs [d, e]) : ∃ x y, vs = [x, y] ∧ Rep K Z M H x d ∧ Rep K Z M H y e := by
  cases r with
  | cons a r =>
    obtain ⟨y, rfl, b⟩ := Reps.one r
    exact ⟨_, _, rfl, a, b⟩
theorem seq_len {K : PySem.W.Frag} {A : An} {ρ : Env} {σ : St} (R : RelS K A ρ M σ H) {d : D} {xs : List D} (hx : Rep K A.Z M H x d) (e : seqOf M d = some xs) : LenV K x H xs.length := by
  obtain ⟨a, ws, rfl, h1, h2⟩ := seq_of R hx e
  rw [← h2.length]
  rcases h1 with h1 | h1
  · exact .inl ⟨ws, h1, rfl⟩
  · exact .inr ⟨ws, h1, rfl⟩
theorem blt_sound {own : Bool} {f : BF} (hc : X.calm = true) (I : Inv X pins σ H s) (rv : Vals vs us) (R : RelS X.K A ρ M τ H) (r : Reps X.K A.Z M H vs ds)
    (h : bltW own f ds M (kc X.K A ρ τ M H Q)) : wpAny (model X.prog X.w) X.A (call f.val us) (EP X pins σ Q) X.xe s := by
  have sc : ∀ {w : V} {d : D}, Rep X.K A.Z M H w d → kc X.K A ρ τ M H Q d M → Q w H := fun r k => k _ _ r R Stp.refl
  cases f with
  | len =>
    have len1 : ∀ d, ds = [d] → (∃ xs, seqOf M d = some xs ∧ kc X.K A ρ τ M H Q (.int xs.length) M) → wpAny (model X.prog X.w) X.A (call (.builtin "len") us) (EP X pins σ Q) X.xe s := fun d e ⟨xs, h1, h2⟩ => by
      subst e
      obtain ⟨x, rfl, hx⟩ := r.one
      exact call_len pins s σ H _ us Q I rv ⟨x, xs.length, rfl, seq_len R hx h1, sc (.int _) h2⟩
    match ds, h with
    | [.str z], h =>
      obtain ⟨x, rfl, hx⟩ := r.one
      cases hx
      exact call_len pins s σ H _ us Q I rv ⟨_, z.length, rfl, ⟨h.1, rfl⟩, sc (.int _) h.2⟩
    | [.ref a], h =>
      rcases h with ⟨xs, h1, h2⟩ | ⟨kvs, h1, h2⟩
      · exact len1 _ rfl ⟨xs, by unfold seqOf; dsimp only; rw [h1], h2⟩
      · obtain ⟨x, rfl, hx⟩ := r.one
        obtain ⟨u, rfl, ru⟩ := vals1 rv
        obtain ⟨ws, g1, g2⟩ := R.mem.obj a _ h1
        cases hx
        cases ru
        refine d_len I (.inl g1) fun t s' I' => ⟨.int ws.length, H, I', ⟨t, rfl⟩, ?_⟩
        rw [krep_len g2]
        exact sc (.int _) h2
    | [.non], h => exact len1 _ rfl h
    | [.bl _], h => exact len1 _ rfl h
    | [.int _], h => exact len1 _ rfl h
    | [.tup _], h => exact len1 _ rfl h
    | [.lst _], h => exact len1 _ rfl h
    | [.scr _], h => exact len1 _ rfl h
    | [.exn _ _], h => exact len1 _ rfl h
    | [], h => exact False.elim h
    | _ :: _ :: _, h => exact False.elim (by unfold bltW at h; simp at h)
  | toint =>
    match ds, h with
    | [.int i], h =>
      obtain ⟨x, rfl, hx⟩ := r.one
      cases hx
      exact call_int1 pins s σ H _ us Q I rv (.inl ⟨i, rfl, sc (.int _) h⟩)
    | [.bl i], h =>
      obtain ⟨x, rfl, hx⟩ := r.one
      cases hx
      exact call_int1 pins s σ H _ us Q I rv (.inr ⟨i, rfl, sc (.int _) h⟩)
    | [.str s], h => exact False.elim h
    | [.ref a], h => exact False.elim h
    | [.non], h => exact False.elim h
    | [.tup _], h => exact False.elim h
    | [.lst _], h => exact False.elim h
    | [.scr _], h => exact False.elim h
    | [.exn _ _], h => exact False.elim h
    | [], h => exact False.elim h
    | _ :: _ :: _, h => exact False.elim (by unfold bltW at h; simp at h)
  | abs =>
    obtain ⟨i, rfl, k⟩ := h
    obtain ⟨x, rfl, hx⟩ := r.one
    cases hx
    exact call_abs pins s σ H _ us Q I rv ⟨i, rfl, sc (.int _) k⟩
  | max2 =>
    obtain ⟨i, j, rfl, k⟩ := h
    obtain ⟨x, y, rfl, hx, hy⟩ := r.two
    cases hx; cases hy
    exact call_max2 hc pins s σ H _ us Q I rv ⟨i, j, rfl, sc (.int _) k⟩
  | min2 =>
    obtain ⟨i, j, rfl, k⟩ := h
    obtain ⟨x, y, rfl, hx, hy⟩ := r.two
    cases hx; cases hy
    exact call_min2 hc pins s σ H _ us Q I rv ⟨i, j, rfl, sc (.int _) k⟩
  | gcd =>
    obtain ⟨i, j, rfl, k⟩ := h
    obtain ⟨x, y, rfl, hx, hy⟩ := r.two
    cases hx; cases hy
    exact cr_gcd pins s σ H _ us Q I rv ⟨i, j, rfl, sc (.int _) k⟩
  | tuple =>
    obtain ⟨d, xs, rfl, e, k⟩ := h
    obtain ⟨x, rfl, hx⟩ := r.one
    cases hx with
    | tup ht q => cases e; exact call_tuple_of pins s σ H _ us Q I rv ⟨_, _, rfl, .inr ⟨ht.seq, sc (.tup ht q) k⟩⟩
    | lst ht hn hz q => cases e; exact call_tuple_of pins s σ H _ us Q I rv ⟨_, _, rfl, .inl ⟨.inl (.inl ht), newT_use R q k⟩⟩
    | scr ht q => cases e; exact call_tuple_of pins s σ H _ us Q I rv ⟨_, _, rfl, .inl ⟨ht.seq, newT_use R q k⟩⟩
    | ref hr =>
      rename_i a o
      unfold seqOf at e
      dsimp only at e
      rw [hr] at e
      cases o with
      | lst ys =>
        cases e
        obtain ⟨ws, g1, g2⟩ := R.mem.obj a _ hr
        exact call_tuple_of pins s σ H _ us Q I rv ⟨_, _, rfl, .inl ⟨.inl (.inl g1), newT_use R g2 k⟩⟩
      | _ => cases e
    | _ => cases e
  | list =>
    obtain ⟨d, xs, rfl, e, k⟩ := h
    obtain ⟨x, rfl, hx⟩ := r.one
    obtain ⟨a, ws, rfl, h1, h2⟩ := seq_of R hx e
    exact call_list_of pins s σ H _ us Q I rv ⟨a, ws, rfl, h1, newL_use R h2 k⟩
  | sum =>
    obtain ⟨d, ns, rfl, e, k⟩ := h
    obtain ⟨x, rfl, hx⟩ := r.one
    obtain ⟨a, ws, rfl, h1, h2⟩ := ls_of R hx e
    rw [h2.ints] at h1
    exact cr_sum hc pins s σ H _ us Q I rv ⟨a, ns, rfl, h1, sc (.int _) k⟩
  | all =>
    obtain ⟨d, ns, rfl, e, k⟩ := h
    obtain ⟨x, rfl, hx⟩ := r.one
    obtain ⟨a, ws, rfl, h1, h2⟩ := ls_of R hx (.inr e)
    rw [h2.bls] at h1
    exact cr_all hc pins s σ H _ us Q I rv ⟨a, ns, rfl, h1, sc (.bl _) k⟩
  | any =>
    obtain ⟨d, ns, rfl, e, k⟩ := h
    obtain ⟨x, rfl, hx⟩ := r.one
    obtain ⟨a, ws, rfl, h1, h2⟩ := ls_of R hx (.inr e)
    rw [h2.bls] at h1
    exact cr_any hc pins s σ H _ us Q I rv ⟨a, ns, rfl, h1, sc (.bl _) k⟩
  | str =>
    obtain ⟨i, rfl, h1, k⟩ := h
    obtain ⟨x, rfl, hx⟩ := r.one
    cases hx
    exact call_str_int pins s σ H _ us Q I rv ⟨i, rfl, h1, sc (.str _) k⟩
  | sorted =>
    obtain ⟨d, ns, rfl, e, h1, k⟩ := h
    obtain ⟨x, rfl, hx⟩ := r.one
    obtain ⟨a, ws, rfl, h2, h3⟩ := ls_of R hx e
    rw [h3.ints] at h2
    exact cr_sorted pins s σ H _ us Q I rv ⟨a, ns, rfl, h2, h1, fun ns' p hp hw hH => newL_use R (Reps.of_ints ns') (k ns' hp hw) p hH⟩
  | max1 =>
    obtain ⟨d, ns, rfl, e, h1, k⟩ := h
    obtain ⟨x, rfl, hx⟩ := r.one
    obtain ⟨a, ws, rfl, h2, h3⟩ := ls_of R hx (.inr e)
    rw [h3.ints] at h2
    exact cr_max hc pins s σ H _ us Q I rv ⟨a, ns, rfl, h2, h1, fun m hm hy => sc (.int _) (k m hm hy)⟩
  | min1 =>
    obtain ⟨d, ns, rfl, e, h1, k⟩ := h
    obtain ⟨x, rfl, hx⟩ := r.one
    obtain ⟨a, ws, rfl, h2, h3⟩ := ls_of R hx (.inr e)
    rw [h3.ints] at h2
    exact cr_min hc pins s σ H _ us Q I rv ⟨a, ns, rfl, h2, h1, fun m hm hy => sc (.int _) (k m hm hy)⟩
/-! ### isinstance -/
def Ty.nm : Ty → String
  | .tint => "int" | .tbool => "bool" | .tstr => "str" | .tlist => "list" | .ttup => "tuple" | .tdict => "dict"
theorem kit_tab (t : Ty) : kitB "NoneType" t.nm = some false ∧ kitB "bool" t.nm = some (decide (t = .tbool ∨ t = .tint)) ∧ kitB "int" t.nm = some (decide (t = .tint)) ∧ kitB "str" t.nm = some (decide (t = .tstr)) ∧
    kitB "tuple" t.nm = some (decide (t = .ttup)) ∧ kitB "list" t.nm = some (decide (t = .tlist)) ∧ kitB "dict" t.nm = some (decide (t = .tdict)) := by
  cases t <;> decide +kernel
theorem ty_of {K : PySem.W.Frag} {A : An} {ρ : Env} {σ : St} (R : RelS K A ρ M σ H) (hx : Rep K A.Z M H x dx) : (∀ t, isTy M t dx = none) ∨ ∃ T, TyX K H x (.type T) ∧ ∀ t, isTy M t dx = kitB T t.nm := by
  cases hx with
  | non => exact .inr ⟨"NoneType", .base .non, fun t => (kit_tab t).1.symm⟩
  | bl b => exact .inr ⟨"bool", .base (.bl b), fun t => (kit_tab t).2.1.symm⟩
  | int b => exact .inr ⟨"int", .base (.int b), fun t => (kit_tab t).2.2.1.symm⟩
  | str b => exact .inr ⟨"str", .base (.str b), fun t => (kit_tab t).2.2.2.1.symm⟩
  | tup h r =>
    refine .inr ⟨"tuple", ?_, fun t => (kit_tab t).2.2.2.2.1.symm⟩
    rcases h with ⟨h | ⟨o, h⟩, _⟩ | ⟨o, _, _, h1, h2, _⟩
    · exact .base (.tup h)
    · exact .fTuple h
    · exact .kTuple h1 h2
  | lst h _ _ r => exact .inr ⟨"list", .base (.lst h), fun t => (kit_tab t).2.2.2.2.2.1.symm⟩
  | scr h r =>
    refine .inr ⟨"list", ?_, fun t => (kit_tab t).2.2.2.2.2.1.symm⟩
    rcases h with ⟨h | ⟨o, h⟩, _, _⟩ | ⟨o, _, _, h1, h2, _⟩
    · exact .base (.lst h)
    · exact .base (.frz h)
    · exact .kList h1 h2
  | ref h =>
    rename_i a o
    have e : ∀ t, isTy M t (.ref a) = match M a with
      | some (.lst _) => some (decide (t = .tlist))
      | some (.dK _) => some (decide (t = .tdict))
      | some (.dT _) => some (decide (t = .tdict))
      | _ => none := fun t => rfl
    rw [h] at e
    cases o with
    | lst xs =>
      obtain ⟨ws, g1, _⟩ := R.mem.obj a _ h
      exact .inr ⟨"list", .base (.lst g1), fun t => (e t).trans (kit_tab t).2.2.2.2.2.1.symm⟩
    | dK xs =>
      obtain ⟨ws, g1, _⟩ := R.mem.obj a _ h
      exact .inr ⟨"dict", .base (.dK g1), fun t => (e t).trans (kit_tab t).2.2.2.2.2.2.symm⟩
    | dT xs =>
      obtain ⟨ws, g1, _⟩ := R.mem.obj a _ h
      exact .inr ⟨"dict", .base (.dT g1), fun t => (e t).trans (kit_tab t).2.2.2.2.2.2.symm⟩
    | xd xs => exact .inl e
  | exn => exact .inl fun t => rfl
theorem kits_of {K : PySem.W.Frag} {T : String} {d : D} (e : ∀ t, isTy M t d = kitB T t.nm) : ∀ (ts : List Ty) (b : Bool), isTys M d ts = some b → PySem.W.kitAny K (.type T) (ts.map fun t => Value.type t.nm) = some b
  | [], b, h => by cases h; exact kitAny_nil
  | t :: ts, b, h => by
    unfold isTys at h
    cases q : isTy M t d with
    | none => rw [q] at h; cases h
    | some c =>
      cases q2 : isTys M d ts with
      | none => rw [q, q2] at h; cases h
      | some c2 =>
        rw [q, q2] at h
        cases h
        refine kitAny_cons (b := c) (kit_ty ((e t).symm.trans q)) (fun z => ?_) fun z => ?_
        · subst z
          rw [Bool.false_or]
          exact kits_of e ts c2 q2
        · subst z; rfl
theorem isi_sound1 {t : Ty} {b : Bool} (I : Inv X pins σ H s) (rv : Vals [x, .ty t.nm] us) (R : RelS X.K A ρ M τ H) (hx : Rep X.K A.Z M H x dx) (e : isTys M dx [t] = some b) (q : Q (.bl b) H) :
    wpAny (model X.prog X.w) X.A (call (.builtin "isinstance") us) (EP X pins σ Q) X.xe s := by
  unfold isTys isTys at e
  cases z : isTy M t dx with
  | none => rw [z] at e; cases e
  | some c =>
    rw [z] at e
    have e : some (c || false) = some b := e
    rw [Bool.or_false] at e
    cases e
    rcases ty_of R hx with h | ⟨T, h1, h2⟩
    · rw [h t] at z; cases z
    · exact call_isi pins s σ H _ us Q I rv ⟨x, .ty t.nm, .type T, .type t.nm, _, rfl, .ty _, h1, kit_ty ((h2 t).symm.trans z), q⟩
theorem isi_soundT {ts : List Ty} {b : Bool} {p : Addr} (hne : ts ≠ []) (I : Inv X pins σ H s) (rv : Vals [x, .ref p] us) (hp : H p = some (.tup (ts.map fun t => V.ty t.nm))) (R : RelS X.K A ρ M τ H) (hx : Rep X.K A.Z M H x dx) (e : isTys M dx ts = some b) (q : Q (.bl b) H) :
    wpAny (model X.prog X.w) X.A (call (.builtin "isinstance") us) (EP X pins σ Q) X.xe s := by
  rcases ty_of R hx with h | ⟨T, h1, h2⟩
  · cases ts with
    | nil => exact absurd rfl hne
    | cons t ts =>
      unfold isTys at e
      rw [h t] at e
      cases e
  · refine call_isiT pins s σ H _ us Q I rv ⟨x, p, _, .type T, ts.map fun t => Value.type t.nm, b, rfl, hp, ?_, h1, kits_of h2 ts b e, q⟩
    clear hp e hne
    induction ts with
    | nil => exact .nil
    | cons t ts ih => exact .cons (.ty _) ih
end
end DL
set_option Elab.async false
set_option linter.all false
set_option maxRecDepth 100000
namespace DL
open PySem PySem.Spec PyProof.Rows L2

/-! ### the checker: an IR is the text -/
structure Cc where
  N : List Str
  sn : List (Str × NameKind)
  fns : List Str
  gl : List Str
  gcd : Bool
def visB (sn : List (Str × NameKind)) (x : Str) : Bool := match sn.lookup x with
  | some .local => true | some .cell => true | some .free => true | _ => false
def locB (sn : List (Str × NameKind)) (x : Str) : Bool := match sn.lookup x with
  | some .local => true | some .cell => true | _ => false
def gloB (sn : List (Str × NameKind)) (x : Str) : Bool := match sn.lookup x with
  | some .globalImplicit => true | _ => false
def nameB (x : Str) : Bool := !(x == ("__debug__" : Str)) && !(x == ("__classdict__" : Str)) && !decide (x = ("__name__" : Str))
def slotB (c : Cc) (i : Nat) (x : Str) : Bool := decide (c.N[i]? = some x) && (visB c.sn x && nameB x)
def notStar : Expr → Bool
  | .Starred .. => false
  | _ => true
def plainB : Expr → Bool
  | .Slice _ _ none _ => false
  | _ => true
def notCall0 : Expr → Bool
  | .Call (.Name _ _) [] [] _ => false
  | _ => true
def bltNm : BF → Str
  | .len => "len" | .toint => "int" | .abs => "abs" | .max2 => "max" | .min2 => "min" | .gcd => "gcd" | .tuple => "tuple" | .list => "list" | .sum => "sum" | .all => "all" | .any => "any"
  | .sorted => "sorted" | .str => "str" | .max1 => "max" | .min1 => "min"
def bltAr : BF → Nat
  | .max2 => 2 | .min2 => 2 | .gcd => 2 | _ => 1
def bltNames : List Str := ["len", "int", "abs", "max", "min", "tuple", "list", "sum", "all", "any", "sorted", "str", "range", "isinstance", "bool", "dict"]
def Ty.py (t : Ty) : Str := Str.ofString t.nm
def tyB (sn : List (Str × NameKind)) (t : Ty) : Expr → Bool
  | .Name x _ => decide (x = t.py) && gloB sn x
  | _ => false
def tysB (sn : List (Str × NameKind)) : List Ty → List Expr → Bool
  | [], [] => true
  | t :: ts, e :: es => tyB sn t e && tysB sn ts es
  | _, _ => false
def tuzB (sn : List (Str × NameKind)) (ts : List Ty) : Expr → Bool
  | .Tuple zs _ _ => decide (ts ≠ []) && (decide (ts.length ≤ 10) && tysB sn ts zs)
  | _ => false
def tyzB (sn : List (Str × NameKind)) (ts : List Ty) (z : Expr) : Bool := match ts with
  | [t] => tyB sn t z
  | ts => tuzB sn ts z
theorem tyzB_cases {sn : List (Str × NameKind)} {ts : List Ty} {z : Expr} (h : tyzB sn ts z = true) : (∃ t, ts = [t] ∧ tyB sn t z = true) ∨ ∃ zs k p, z = .Tuple zs k p ∧ ts ≠ [] ∧ ts.length ≤ 10 ∧ tysB sn ts zs = true := by
  have multi : tuzB sn ts z = true → ∃ zs k p, z = .Tuple zs k p ∧ ts ≠ [] ∧ ts.length ≤ 10 ∧ tysB sn ts zs = true := fun h => by
    cases z with
    | Tuple zs k p =>
      obtain ⟨h1, h2⟩ := Bool.and_eq_true_iff.mp h
      obtain ⟨h2, h3⟩ := Bool.and_eq_true_iff.mp h2
      exact ⟨zs, k, p, rfl, of_decide_eq_true h1, of_decide_eq_true h2, h3⟩
    | _ => cases h
  match ts, h, multi with
  | [t], h, _ => exact .inl ⟨t, rfl, h⟩
  | [], h, m => exact .inr (m h)
  | a :: b :: r, h, m => exact .inr (m h)
def tuOwn : List Nat → List Expr → Option (List (Str × Nat))
  | [], [] => some []
  | i :: is, .Name x _ :: es => (tuOwn is es).map fun r => (x, i) :: r
  | _, _ => none
def tgOwn : Tg → Expr → Option (List (Str × Nat))
  | .nm i, .Name x _ => some [(x, i)]
  | .tu is, .Tuple es _ _ => if is.Nodup then tuOwn is es else none
  | _, _ => none
def relN (names sn : List (Str × NameKind)) : List (Str × NameKind) := names.map fun (n, k) => if (k == .free && sn.lookup n == some .cell) then (n, .cell) else (n, k)
def scOf (sn : List (Str × NameKind)) : Scope := { kind := .function, names := sn, isGenerator := false, isCoroutine := false }
def ownB (N : List Str) (names : List (Str × NameKind)) (own : List (Str × Nat)) : Bool := own.all fun p => decide (N[p.2]? = some p.1) && locB names p.1
def keyB (s : Str) : Option Expr → Bool
  | some (.Constant (.str t) _ _) => decide (t = s)
  | _ => false
def keysB : List Str → List (Option Expr) → Bool
  | [], [] => true
  | s :: ss, e :: es => keyB s e && keysB ss es
  | _, _ => false
def cstB : CV → Expr → Bool
  | .non, .Constant .none _ _ => true
  | .bl b, .Constant (.bool d) _ _ => decide (d = b)
  | .int i, .Constant (.int j) _ _ => decide (j = i)
  | .str s, .Constant (.str t) _ _ => decide (t = s)
  | _, _ => false
mutual
def chkE (c : Cc) : IE → Expr → Bool
  | .var i, e => match e with
    | .Name x _ => slotB c i x
    | _ => false
  | .cst v, e => cstB v e
  | .glob g, e => match e with
    | .Name x _ => decide (c.gl[g]? = some x) && (gloB c.sn x && nameB x)
    | _ => false
  | .tup es, e => match e with
    | .Tuple xs _ _ => chkEs c es xs
    | _ => false
  | .lst _ es, e => match e with
    | .List xs _ => chkEs c es xs
    | _ => false
  | .bin _ op a b, e => match e with
    | .BinOp x o y _ => decide (o = op.op) && (chkE c a x && chkE c b y)
    | _ => false
  | .neg a, e => match e with
    | .UnaryOp .USub x _ => chkE c a x
    | _ => false
  | .not a, e => match e with
    | .UnaryOp .Not x _ => chkE c a x
    | _ => false
  | .and es, e => match e with
    | .BoolOp .And xs _ => chkEs c es xs
    | _ => false
  | .or es, e => match e with
    | .BoolOp .Or xs _ => chkEs c es xs
    | _ => false
  | .cmp op a b, e => match e with
    | .Compare x [o] [y] _ => decide (o = op.op) && (!behindInMarks o y && (chkE c a x && chkE c b y))
    | _ => false
  | .chain op op' a b d, e => match e with
    | .Compare x [o, o'] [y, z] _ => decide (o = op.op) && (decide (o' = op'.op) && (!lastMarks [o, o'] [y, z] && (chkE c a x && (chkE c b y && chkE c d z))))
    | _ => false
  | .isN no a, e => match e with
    | .Compare x [o] [.Constant .none _ _] _ => decide (o = if no then .IsNot else .Is) && chkE c a x
    | _ => false
  | .ite d a b, e => match e with
    | .IfExp t x y _ => chkE c d t && (chkE c a x && chkE c b y)
    | _ => false
  | .ix a b, e => match e with
    | .Subscript x y _ => plainB y && (chkE c a x && chkE c b y)
    | _ => false
  | .sl _ a lo hi, e => match e with
    | .Subscript x (.Slice l h none _) _ => chkE c a x && (chkIO c lo l && chkIO c hi h)
    | _ => false
  | .rev _ a, e => match e with
    | .Subscript x (.Slice none none (some (.UnaryOp .USub (.Constant (.int 1) _ _) _)) _) _ => chkE c a x
    | _ => false
  | .call f es, e => match e with
    | .Call (.Name x _) (y :: xs) [] _ => decide (c.fns[f]? = some x) && (gloB c.sn x && (nameB x && chkEs c es (y :: xs)))
    | _ => false
  | .call0 f, e => match e with
    | .Call (.Name x _) [] [] _ => decide (c.fns[f]? = some x) && (gloB c.sn x && nameB x)
    | _ => false
  | .blt _ f es, e => match e with
    | .Call (.Name x _) (y :: xs) [] _ => decide (x = bltNm f) && (decide (xs.length + 1 = bltAr f) && ((c.gcd || decide (f ≠ .gcd)) && (gloB c.sn x && chkEs c es (y :: xs))))
    | _ => false
  | .isi a ts, e => match e with
    | .Call (.Name x _) [y, z] [] _ => decide (x = ("isinstance" : Str)) && (gloB c.sn x && (notStar y && (chkE c a y && tyzB c.sn ts z)))
    | _ => false
  | .lc _ t elt it tst, e => match e with
    | .ListComp x [⟨tg, iter, ifs, a⟩] scope _ => decide (a = 0) && (chkI c it iter && (match tgOwn t tg with
      | some own => blkC c.N (scOf c.sn) scope own && (ownB c.N scope.names own && (chkE { c with sn := relN scope.names c.sn } elt x && chkIT { c with sn := relN scope.names c.sn } tst ifs))
      | none => false))
    | _ => false
  | .dnew _, e => match e with
    | .Dict [] [] _ => true
    | _ => false
  | .disp ks es, e => match e with
    | .Dict (k :: keys) (v :: vals) _ => (decide (ks.length ≤ 15) && decide (ks.length = (v :: vals).length)) && (keysB ks (k :: keys) && chkEs c es (v :: vals))
    | _ => false
  | .pop a, e => match e with
    | .Call (.Attribute x m apos) [] [] cpos => decide (m = ("pop" : Str)) && (apos.endLine == cpos.line && (notCall0 x && chkE c a x))
    | _ => false
  | .get a k d, e => match e with
    | .Call (.Attribute x m apos) [y, z] [] cpos => decide (m = ("get" : Str)) && (apos.endLine == cpos.line && (notCall0 x && (chkE c a x && (notStar y && (notStar z && (chkE c k y && chkE c d z))))))
    | _ => false
def chkEs (c : Cc) : IEs → List Expr → Bool
  | .nil, xs => match xs with
    | [] => true
    | _ => false
  | .cons e es, xs => match xs with
    | x :: xs => notStar x && (chkE c e x && chkEs c es xs)
    | _ => false
def chkIO (c : Cc) : IO → Option Expr → Bool
  | .none, x => match x with
    | none => true
    | _ => false
  | .some e, x => match x with
    | some x => chkE c e x
    | _ => false
def chkIT (c : Cc) : IO → List Expr → Bool
  | .none, x => match x with
    | [] => true
    | _ => false
  | .some e, x => match x with
    | [x] => chkE c e x
    | _ => false
def chkI (c : Cc) : II → Expr → Bool
  | .seq e, x => (match x with
    | .Set .. => false
    | _ => true) && chkE c e x
  | .rng1 a, x => match x with
    | .Call (.Name r _) [y] [] _ => decide (r = ("range" : Str)) && (gloB c.sn r && (notStar y && chkE c a y))
    | _ => false
  | .rng2 a b, x => match x with
    | .Call (.Name r _) [y, z] [] _ => decide (r = ("range" : Str)) && (gloB c.sn r && (notStar y && (notStar z && (chkE c a y && chkE c b z))))
    | _ => false
end

/-! ### promises -/
def ExRep (ca : Nat → Addr) (K : PySem.W.Frag) (Z : Addr → Prop) (M : Mem) (H : Hp) (cls : Value) (dx : Option Addr) (x : Exn) : Prop :=
  cls = .ref (ca x.c) ∧ ∃ d fs, dx = some d ∧ H d = some (.xd fs) ∧ M d = none ∧ KRep K Z M H fs x.fs
def toSp (K : PySem.W.Frag) (ca : Nat → Addr) (sp : DSp) : Sp := fun vs H Q E => ∃ Z ds M, Reps K Z M H vs ds ∧ MemOk K Z M H ∧
  sp.wp ds M (fun d M' => ∀ v H', Rep K Z M' H' v d → MemOk K Z M' H' → Stp M H M' H' → Q v H')
    (fun x M' => ∀ cls dx H', ExRep ca K Z M' H' cls dx x → MemOk K Z M' H' → Stp M H M' H' → E cls dx H')
def FnAt (X : Cx) (ca : Nat → Addr) (x : Str) (sp : DSp) : Prop := ∃ f fd ps k, X.mg x = some (.ref f) ∧ PySem.W.keepIn X.K (.ref f) = true ∧ L2.Binds X.K fd ps [] ∧ Room k X.A ∧ FnOk X.prog X.w X.K X.mg X.base (L2.CX X.prog X.w) k f fd ps (toSp X.K ca sp)
def GlAt (X : Cx) (x : Str) (d : D) : Prop := ∃ u v, X.mg x = some u ∧ RelV v u ∧ ∀ Z M H, Rep X.K Z M H v d
structure CtxE (c : Cc) (Γ : List DSp) (gs : List D) (ca : Nat → Addr) (X : Cx) : Prop where
  N : X.N = c.N
  nd : X.N.Nodup
  sn : X.env.scope.names = c.sn
  kind : X.env.scope.kind = .function
  calm : X.calm = true
  room : X.A.units + 65 < cLine
  fns : ∀ (i : Nat) (x : Str) (sp : DSp), c.fns[i]? = some x → Γ[i]? = some sp → FnAt X ca x sp
  gl : ∀ (i : Nat) (x : Str) (d : D), c.gl[i]? = some x → gs[i]? = some d → GlAt X x d
  blt : ∀ x ∈ bltNames, X.mg x = none
  nf : c.fns.length = Γ.length
  ng : c.gl.length = gs.length
  gcd : c.gcd = true → X.mg "gcd" = some (.builtin "math.gcd")
def wx (ca : Nat → Addr) (K : PySem.W.Frag) (A : An) (E : Exn → Mem → Prop) : WX := fun cls d σ H => ∃ ρ M x, RelS K A ρ M σ H ∧ ExRep ca K A.Z M H cls d x ∧ E x M
abbrev TakesE (ca : Nat → Addr) (X : Cx) (A : An) (E : Exn → Mem → Prop) : Prop := Takes X (wx ca X.K A E)
theorem takesNo {ca : Nat → Addr} {X : Cx} {A : An} : TakesE ca X A noE := takes0.imp fun _ _ _ _ ⟨_, _, _, _, _, z⟩ => z.elim
/-! ### readings -/
def td (K : PySem.W.Frag) (A : An) (w : Env → Mem → (D → Mem → Prop) → Prop) : TE := fun σ H Q => ∃ ρ M, RelS K A ρ M σ H ∧ w ρ M (kc K A ρ σ M H Q)
def tds (K : PySem.W.Frag) (A : An) (w : Env → Mem → (List D → Mem → Prop) → Prop) : TA := fun σ H Q => ∃ ρ M, RelS K A ρ M σ H ∧ w ρ M (kcs K A ρ σ M H Q)
def tb (K : PySem.W.Frag) (A : An) (w : Env → Mem → (Bool → Mem → Prop) → Prop) : TT := fun σ H Q => ∃ ρ M, RelS K A ρ M σ H ∧ w ρ M (kb K A ρ σ M H Q)
def tdo (K : PySem.W.Frag) (A : An) (w : Env → Mem → (Option Int → Mem → Prop) → Prop) : TO := fun σ H Q => ∃ ρ M, RelS K A ρ M σ H ∧ w ρ M (ko K A ρ σ M H Q)
/-- a walk and what it walks -/
def JB (K : PySem.W.Frag) (Z : Addr → Prop) (M : Mem) (H : Hp) (J : It) (src : Src) : Prop :=
  (∃ a d, J = Itl K a ∧ Rep K Z M H (.ref a) d ∧ (∀ xs, d ≠ .tup xs) ∧ src.keep = fun M' => seqOf M' d = some src.xs) ∨
  (∃ a d, J = Itt K a ∧ Rep K Z M H (.ref a) (.tup d) ∧ src.xs = d) ∨
  (∃ lo n, J = Itr lo n ∧ src.xs = (List.range n).map fun k => D.int (lo + (k : Nat)))
def ti (K : PySem.W.Frag) (A : An) (w : Env → Mem → (Src → Mem → Prop) → Prop) : TI := fun σ H R => ∃ ρ M, RelS K A ρ M σ H ∧ w ρ M fun src M1 => src.keep M1 → ∀ J H1, JB K A.Z M1 H1 J src → RelS K A ρ M1 σ H1 → Stp M H M1 H1 → R J H1
theorem PE.imp {X : Cx} {e : Expr} {t t' : TE} (h : PE X e t) (k : ∀ σ H Q, t' σ H Q → t σ H Q) : PE X e t' := ⟨fun pins s σ H Q I q => h.run pins s σ H Q I (k σ H Q q)⟩
theorem PT.imp {X : Cx} {e : Expr} {t t' : TT} (h : PT X e t) (k : ∀ σ H Q, t' σ H Q → t σ H Q) : PT X e t' := ⟨fun pins s σ H Q I q => h.run pins s σ H Q I (k σ H Q q)⟩
theorem PW.imp {X : Cx} {e : Expr} {t t' : TT} (h : PW X e t) (k : ∀ σ H Q, t' σ H Q → t σ H Q) : PW X e t' := ⟨fun wh pins s σ H Q I q => h.run wh pins s σ H Q I (k σ H Q q)⟩
theorem PA.imp {X : Cx} {e : List Expr} {t t' : TA} (h : PA X e t) (k : ∀ σ H Q, t' σ H Q → t σ H Q) : PA X e t' := ⟨fun pos pins s σ H Q I q => h.run pos pins s σ H Q I (k σ H Q q)⟩
theorem PS.imp {X : Cx} {e : Stmt} {t t' : TS} (h : PS X e t) (k : ∀ D σ H, t' D σ H → t D σ H) : PS X e t' := ⟨fun pins s σ H Q I q => h.run pins s σ H Q I (k Q σ H q)⟩
theorem PSs.imp {X : Cx} {e : List Stmt} {t t' : TS} (h : PSs X e t) (k : ∀ D σ H, t' D σ H → t D σ H) : PSs X e t' := ⟨fun pins s σ H Q I q => h.run pins s σ H Q I (k Q σ H q)⟩
/-! ### small facts -/
theorem and2 {a b : Bool} (h : (a && b) = true) : a = true ∧ b = true := Bool.and_eq_true_iff.mp h
theorem not2 {a : Bool} (h : (!a) = true) : a = false := by cases a <;> first | rfl | cases h
theorem star_cons {x : Expr} {xs : List Expr} {env : PySem.Env} (h : notStar x = true) : starEach (x :: xs) env = (false, eval x env) :: starEach xs env := by
  cases x <;> first | rfl | cases h
theorem star_plain {pos : Pos} {env : PySem.Env} : ∀ {xs : List Expr}, xs.all notStar = true → (backTo pos (starEach xs env)).any (·.1) = false
  | [], _ => rfl
  | x :: xs, h => by
    rw [List.all_cons, Bool.and_eq_true] at h
    rw [star_cons h.1]
    have ih := star_plain (pos := pos) (env := env) h.2
    unfold backTo at ih ⊢
    rw [List.map_cons, List.any_cons, ih]
    rfl
theorem es_star {c : Cc} : ∀ (es : IEs) (xs : List Expr), chkEs c es xs = true → xs.all notStar = true
  | .nil, [], _ => rfl
  | .nil, _ :: _, h => by unfold chkEs at h; cases h
  | .cons _ _, [], h => by unfold chkEs at h; cases h
  | .cons e es, x :: xs, h => by
    unfold chkEs at h
    rw [List.all_cons, (and2 h).1, es_star es xs (and2 (and2 h).2).2]
    rfl
theorem vis_of {X : Cx} {c : Cc} {x : Str} (sn : X.env.scope.names = c.sn) (h : visB c.sn x = true) : Vis X.env.scope x := by
  unfold visB at h
  rw [← sn] at h
  unfold Vis
  cases q : X.env.scope.names.lookup x with
  | none => rw [q] at h; cases h
  | some k =>
    rw [q] at h
    cases k <;> first | exact .inl rfl | exact .inr (.inl rfl) | exact .inr (.inr rfl) | (cases h; done)
theorem glo_of {X : Cx} {c : Cc} {x : Str} (sn : X.env.scope.names = c.sn) (h : gloB c.sn x = true) : Gl X x := by
  unfold gloB at h
  rw [← sn] at h
  show X.env.scope.names.lookup x = _
  cases q : X.env.scope.names.lookup x with
  | none => rw [q] at h; cases h
  | some k =>
    rw [q] at h
    cases k <;> first | rfl | (cases h; done)
theorem name_of {x : Str} (h : nameB x = true) : (x == ("__debug__" : Str)) = false ∧ (x == ("__classdict__" : Str)) = false ∧ x ≠ ("__name__" : Str) := by
  unfold nameB at h
  obtain ⟨h1, h2⟩ := and2 h
  obtain ⟨h1, h3⟩ := and2 h1
  refine ⟨not2 h1, not2 h3, fun z => ?_⟩
  rw [decide_eq_true z] at h2
  cases h2
theorem RelS.td {K : PySem.W.Frag} {A : An} {ρ : Env} {σ : St} {M : Mem} {H : Hp} (R : RelS K A ρ M σ H) {x : V} {d : D} {Q : VK} (r : Rep K A.Z M H x d) (k : kc K A ρ σ M H Q d M) : Q x H := k x H r R Stp.refl
theorem JB.wide {K : PySem.W.Frag} {Z Z' : Addr → Prop} {M : Mem} {H : Hp} {J : It} {src : Src} (h : JB K Z M H J src) (hz : ∀ v d, Rep K Z M H v d → Rep K Z' M H v d) : JB K Z' M H J src := by
  rcases h with ⟨a, d, h1, h2, h3, h4⟩ | ⟨a, d, h1, h2, h3⟩ | h
  · exact .inl ⟨a, d, h1, hz _ _ h2, h3, h4⟩
  · exact .inr (.inl ⟨a, d, h1, hz _ _ h2, h3⟩)
  · exact .inr (.inr h)
section
variable {K : PySem.W.Frag} {A : An} {ρ : Env} {σ : St} {M M1 : Mem} {H H1 : Hp} {J : It} {src : Src}
theorem sql_of (R : RelS K A ρ M σ H) {a : Addr} {d : D} {xs : List D} (h : Rep K A.Z M H (.ref a) d) (nt : ∀ xs, d ≠ .tup xs) (e : seqOf M d = some xs) : ∃ vs, SqL K H a vs ∧ Reps K A.Z M H vs xs := by
  cases h with
  | lst h n z r => cases e; exact ⟨_, .inl (.inl h), r⟩
  | tup h r => exact absurd rfl (nt _)
  | scr h r => cases e; exact ⟨_, h.seq, r⟩
  | ref h =>
    rename_i o
    unfold seqOf at e
    dsimp only at e
    rw [h] at e
    cases o with
    | lst xs =>
      injection e with e1
      subst e1
      obtain ⟨vs, h1, h2⟩ := R.mem.obj a _ h
      exact ⟨vs, .inl (.inl h1), h2⟩
    | dK xs => cases e
    | dT xs => cases e
    | xd xs => cases e
  | exn => cases e
theorem JB.mono {Z : Addr → Prop} (h : JB K Z M1 H1 J src) (st : Stp M1 H1 M H) : JB K Z M H J src := by
  rcases h with ⟨a, d, h1, h2, h3, h4⟩ | ⟨a, d, h1, h2, h3⟩ | h
  · exact .inl ⟨a, d, h1, h2.mono st, h3, h4⟩
  · exact .inr (.inl ⟨a, d, h1, h2.mono st, h3⟩)
  · exact .inr (.inr h)
/-- one turn of a walk -/
theorem JB.go (h : JB K A.Z M H J src) (R : RelS K A ρ M σ H) (k : src.keep M) {i : Nat} (hi : i < src.xs.length) : J.go i H ∧ ∀ x H', J.yld i H x H' → H' = H ∧ ∃ d, src.xs[i]? = some d ∧ Rep K A.Z M H x d := by
  rcases h with ⟨a, d, rfl, h2, h3, h4⟩ | ⟨a, d, rfl, h2, h3⟩ | ⟨lo, n, rfl, h2⟩
  · rw [h4] at k
    obtain ⟨vs, g1, g2⟩ := sql_of R h2 h3 k
    obtain ⟨w, e1, e2⟩ := g2.get (List.getElem?_eq_getElem hi)
    refine ⟨⟨vs, w, g1, e1⟩, fun x H' ⟨e, y⟩ => ⟨e, _, List.getElem?_eq_getElem hi, ?_⟩⟩
    have := y vs g1
    rw [e1] at this
    cases this
    exact e2
  · subst h3
    cases h2 with
    | tup ht r =>
      obtain ⟨w, e1, e2⟩ := r.get (List.getElem?_eq_getElem hi)
      refine ⟨⟨_, w, ht.seq, e1⟩, fun x H' ⟨e, y⟩ => ⟨e, _, List.getElem?_eq_getElem hi, ?_⟩⟩
      have := y _ ht.seq
      rw [e1] at this
      cases this
      exact e2
  · have hn : i < n := by rw [h2, List.length_map, List.length_range] at hi; exact hi
    refine ⟨hn, fun x H' ⟨e, y⟩ => ⟨e, D.int (lo + (i : Nat)), ?_, ?_⟩⟩
    · rw [h2, List.getElem?_map, List.getElem?_range hn]; rfl
    · rw [y]; exact .int _
theorem JB.stop (h : JB K A.Z M H J src) (R : RelS K A ρ M σ H) (k : src.keep M) : J.stop src.xs.length H := by
  rcases h with ⟨a, d, rfl, h2, h3, h4⟩ | ⟨a, d, rfl, h2, h3⟩ | ⟨lo, n, rfl, h2⟩
  · rw [h4] at k
    obtain ⟨vs, g1, g2⟩ := sql_of R h2 h3 k
    exact ⟨vs, g1, by rw [g2.length]; exact Nat.le_refl _⟩
  · subst h3
    cases h2 with
    | tup ht r => exact ⟨_, ht.seq, by rw [r.length]; exact Nat.le_refl _⟩
  · show n ≤ _
    rw [h2, List.length_map, List.length_range]
    exact Nat.le_refl _
end
/-! ### targets -/
def gL : List Nat → TGs
  | [] => gNil
  | i :: is => gCons (gName i) (gL is)
def gT (K : PySem.W.Frag) : Tg → TG
  | .nm i => gName i
  | .tu is => gTup K is.length (gL is)
/-- the names may be stored -/
def StoOk (X : Cx) (own : List (Str × Nat)) : Prop := ∀ p ∈ own, X.N[p.2]? = some p.1 ∧ Loc X.env.scope p.1 ∧ (X.fn p.1 = true ∨ X.env.scope.names.lookup p.1 = some .local)
theorem tu_pgs {X : Cx} (hN : X.N.Nodup) : ∀ (is : List Nat) (es : List Expr) (own : List (Str × Nat)), tuOwn is es = some own → StoOk X own → PGs X es (gL is) ∧ (assignEach es X.env).length = is.length ∧ (assignEach es X.env).findIdx? (·.1) = none
  | [], [], _, h, _ => ⟨pgs_nil, rfl, rfl⟩
  | [], _ :: _, _, h, _ => by unfold tuOwn at h; cases h
  | _ :: _, [], _, h, _ => by unfold tuOwn at h; cases h
  | i :: is, e :: es, own, h, S => by
    cases e with
    | Name x p =>
      unfold tuOwn at h
      cases q : tuOwn is es with
      | none => rw [q] at h; cases h
      | some r =>
        rw [q] at h
        cases h
        obtain ⟨h1, h2, h3⟩ := tu_pgs hN is es r q fun p hp => S p (List.mem_cons_of_mem _ hp)
        obtain ⟨s1, s2, s3⟩ := S (x, i) List.mem_cons_self
        refine ⟨pgs_cons (pg_name hN s1 s2 s3) h1, ?_, ?_⟩
        · show (assignEach es X.env).length + 1 = _
          rw [h2]; rfl
        · show ((false, _) :: assignEach es X.env).findIdx? _ = none
          rw [List.findIdx?_cons, if_neg (show ¬ (false = true) from Bool.false_ne_true), h3]
          rfl
    | _ => unfold tuOwn at h; cases h
theorem tg_pg {X : Cx} (hN : X.N.Nodup) (hc : X.calm = true) {t : Tg} {e : Expr} {own : List (Str × Nat)} (h : tgOwn t e = some own) (S : StoOk X own) : PG X e (gT X.K t) := by
  cases t with
  | nm i =>
    cases e <;> first
      | (unfold tgOwn at h; cases h; done)
      | (unfold tgOwn at h
         cases h
         obtain ⟨s1, s2, s3⟩ := S _ List.mem_cons_self
         exact pg_name hN s1 s2 s3)
  | tu is =>
    cases e <;> first
      | (unfold tgOwn at h; cases h; done)
      | (unfold tgOwn at h
         dsimp only at h
         split at h
         · obtain ⟨h1, h2, h3⟩ := tu_pgs hN is _ own h S
           exact pg_tup hc h1 h2 h3
         · cases h)
theorem tu_slots : ∀ (is : List Nat) (es : List Expr) (own : List (Str × Nat)), tuOwn is es = some own → own.map (·.2) = is
  | [], [], _, h => by unfold tuOwn at h; cases h; rfl
  | [], _ :: _, _, h => by unfold tuOwn at h; cases h
  | _ :: _, [], _, h => by unfold tuOwn at h; cases h
  | i :: is, e :: es, own, h => by
    cases e with
    | Name x p =>
      unfold tuOwn at h
      cases q : tuOwn is es with
      | none => rw [q] at h; cases h
      | some r =>
        rw [q] at h
        cases h
        rw [List.map_cons, tu_slots is es r q]
    | _ => unfold tuOwn at h; cases h
theorem tg_slots {t : Tg} {e : Expr} {own : List (Str × Nat)} (h : tgOwn t e = some own) : own.map (·.2) = tgSlots t := by
  cases t with
  | nm i => cases e <;> first | (unfold tgOwn at h; cases h; done) | (unfold tgOwn at h; cases h; rfl)
  | tu is =>
    cases e <;> first
      | (unfold tgOwn at h; cases h; done)
      | (unfold tgOwn at h
         dsimp only at h
         split at h
         · exact tu_slots is _ own h
         · cases h)
/-- σ' is σ but for the slots -/
def Off (is : List Nat) (σ σ' : St) : Prop := σ'.length = σ.length ∧ ∀ j, j ∉ is → σ'[j]? = σ[j]?
theorem Off.refl {is : List Nat} {σ : St} : Off is σ σ := ⟨rfl, fun _ _ => rfl⟩
theorem wipe_at : ∀ (vs : List Nat) (σ : St) (j : Nat), j < σ.length → (wipe σ vs)[j]? = if j ∈ vs then some none else σ[j]?
  | [], σ, j, _ => by simp [wipe]
  | v :: vs, σ, j, h => by
    unfold wipe
    by_cases e : v = j
    · subst e
      rw [List.getElem?_set_self (by rw [wipe_length]; exact h), if_pos List.mem_cons_self]
    · rw [List.getElem?_set_ne e, wipe_at vs σ j h]
      have : (j ∈ v :: vs) ↔ j ∈ vs := by
        rw [List.mem_cons]
        exact ⟨fun z => z.elim (fun z => absurd z.symm e) id, .inr⟩
      simp only [this]
theorem Off.wipe {is : List Nat} {σ σ' : St} (h : Off is σ σ') : wipe σ' is = wipe σ is := by
  refine List.ext_getElem? fun j => ?_
  by_cases hj : j < σ.length
  · rw [wipe_at is σ' j (by rw [h.1]; exact hj), wipe_at is σ j hj]
    split
    · rfl
    · exact h.2 j (by assumption)
  · rw [List.getElem?_eq_none (by rw [wipe_length, h.1]; omega), List.getElem?_eq_none (by rw [wipe_length]; omega)]
theorem gL_of {K : PySem.W.Frag} {A : An} {M : Mem} {H : Hp} : ∀ (is : List Nat) (ds : List D) (vs : List V) (ρ : Env) (σ : St) (Q : St → Hp → Prop), ds.length = is.length → Reps K A.Z M H vs ds → RelS K A ρ M σ H →
    (∀ σ', RelS K A (setAll is ds ρ) M σ' H → Off is σ σ' → Q σ' H) → gL is vs σ H Q
  | [], [], _, ρ, σ, Q, _, .nil, R, h => ⟨rfl, h σ R Off.refl⟩
  | i :: is, d :: ds, _, ρ, σ, Q, e, .cons (v := v) (vs := vs) a r, R, h => by
    refine ⟨v, vs, rfl, ?_⟩
    refine gL_of is ds vs (ρ.set i (some d)) (σ.set i (some v)) Q (by simpa using e) r (R.set a) fun σ' R' o => ?_
    refine h σ' R' ⟨by rw [o.1, List.length_set], fun j hj => ?_⟩
    rw [o.2 j fun z => hj (List.mem_cons_of_mem _ z), List.getElem?_set_ne fun z => hj (by rw [← z]; exact List.mem_cons_self)]
theorem gT_of {K : PySem.W.Frag} {A : An} {M : Mem} {H : Hp} {t : Tg} {d : D} {v : V} {ρ : Env} {σ : St} {Q : St → Hp → Prop} {P : Env → Prop} (r : Rep K A.Z M H v d) (R : RelS K A ρ M σ H) (h : tgW t d ρ P)
    (k : ∀ ρ' σ', RelS K A ρ' M σ' H → P ρ' → Off (tgSlots t) σ σ' → Q σ' H) : gT K t v σ H Q := by
  cases t with
  | nm i => exact k _ _ (R.set r) h ⟨by rw [List.length_set], fun j hj => List.getElem?_set_ne fun z => hj (by rw [← z]; exact List.mem_cons_self)⟩
  | tu is =>
    obtain ⟨xs, rfl, h1, h2⟩ := h
    cases r with
    | tup ht r => exact ⟨_, _, rfl, ht.seq, by rw [r.length]; exact h1, gL_of is xs _ ρ σ Q h1 r R fun σ' R' o => k _ _ R' h2 o⟩
theorem RelS.wipe {K : PySem.W.Frag} {A : An} {ρ : Env} {M : Mem} {σ : St} {H : Hp} (R : RelS K A ρ M σ H) : ∀ vs : List Nat, RelS K A (wipeE ρ vs) M (wipe σ vs) H
  | [] => R
  | _ :: vs => (R.wipe vs).unset
end DL
set_option Elab.async false
set_option linter.all false
set_option maxRecDepth 100000
namespace DL
open PySem PySem.Spec PyProof.Rows L2
section
variable {X : Cx}
/-! ### the rules by data -/
def rBin (X : Cx) (own : Bool) (op : BOp) : R2 := fun x y H Q => ∃ A ρ τ M dx dy, RelS X.K A ρ M τ H ∧ Rep X.K A.Z M H x dx ∧ Rep X.K A.Z M H y dy ∧ binW own op dx dy M (kc X.K A ρ τ M H Q)
theorem opr_bin {own : Bool} {op : BOp} : OpR X (binaryOp op.op) (rBin X own op) := fun _ _ _ _ _ _ _ _ _ I rx ry ⟨_, _, _, _, _, _, R, hx, hy, h⟩ => bin_sound I rx ry R hx hy h
def rCmp (X : Cx) (op : COp) : R2 := fun x y H Q => ∃ A ρ τ M dx dy, RelS X.K A ρ M τ H ∧ Rep X.K A.Z M H x dx ∧ Rep X.K A.Z M H y dy ∧ cmpW op dx dy M (kc X.K A ρ τ M H Q)
theorem opr_cmp {op : COp} (hu : X.A.units + 65 < cLine) : OpR X (compareOp op.op) (rCmp X op) := fun _ _ _ _ _ _ _ _ _ I rx ry ⟨_, _, _, _, _, _, R, hx, hy, h⟩ => cmp_sound hu I rx ry R hx hy h
def rIxD (X : Cx) : R2 := fun x y H Q => ∃ A ρ τ M dx dy, RelS X.K A ρ M τ H ∧ Rep X.K A.Z M H x dx ∧ Rep X.K A.Z M H y dy ∧ ixW dx dy M (kc X.K A ρ τ M H Q)
theorem ixr_d (hu : X.A.units + 65 < cLine) : IxR X (rIxD X) := fun _ _ _ _ _ _ _ _ _ _ _ I rx ry ⟨_, _, _, _, _, _, R, hx, hy, h⟩ hs => ix_sound hu I rx ry R hx hy h hs
def rSlD (X : Cx) (own : Bool) : V → Option Int → Option Int → Hp → VK → Prop := fun x lo hi H Q => ∃ A ρ τ M dx, RelS X.K A ρ M τ H ∧ Rep X.K A.Z M H x dx ∧ slW own dx lo hi M (kc X.K A ρ τ M H Q)
theorem slr_d {own : Bool} : SlR X (rSlD X own) := fun _ _ _ _ _ _ _ _ _ _ _ _ I rx hs pl pu ⟨_, _, _, _, _, R, hx, h⟩ => sl_sound I rx hs pl pu R hx h
def rBltD (X : Cx) (own : Bool) (f : BF) : List V → Hp → VK → Prop := fun xs H Q => ∃ A ρ τ M ds, RelS X.K A ρ M τ H ∧ Reps X.K A.Z M H xs ds ∧ bltW own f ds M (kc X.K A ρ τ M H Q)
theorem callr_d {own : Bool} {f : BF} (hc : X.calm = true) : CallR X f.val (rBltD X own f) := fun _ _ _ _ _ _ _ I rv ⟨_, _, _, _, _, R, r, h⟩ => blt_sound hc I rv R r h
end
section
variable {K : PySem.W.Frag} {A : An} {ρ : Env} {σ : St} {M : Mem} {H : Hp}
abbrev MonoW (w : Env → Mem → (D → Mem → Prop) → Prop) : Prop := ∀ ρ M (Q Q' : D → Mem → Prop), (∀ d M, Q d M → Q' d M) → w ρ M Q → w ρ M Q'
theorem one {w : Env → Mem → (D → Mem → Prop) → Prop} (m : MonoW w) (R : RelS K A ρ M σ H) {P : D → Mem → Prop} {k : V → Hp → Prop} (q : w ρ M P)
    (f : ∀ d v M1 H1, P d M1 → Rep K A.Z M1 H1 v d → RelS K A ρ M1 σ H1 → Stp M H M1 H1 → k v H1) : td K A w σ H k :=
  ⟨ρ, M, R, m _ _ _ _ (fun d M1 h v H1 r R1 S => f d v M1 H1 h r R1 S) q⟩
theorem two {w1 w2 : Env → Mem → (D → Mem → Prop) → Prop} (m1 : MonoW w1) (m2 : MonoW w2) (R : RelS K A ρ M σ H) {P : D → D → Mem → Prop} {k : V → V → Hp → Prop} (q : w1 ρ M fun x M1 => w2 ρ M1 fun y M2 => P x y M2)
    (f : ∀ d e v u M1 H1, P d e M1 → Rep K A.Z M1 H1 v d → Rep K A.Z M1 H1 u e → RelS K A ρ M1 σ H1 → Stp M H M1 H1 → k v u H1) : td K A w1 σ H fun x H1 => td K A w2 σ H1 fun y H2 => k x y H2 :=
  one m1 R q fun d v M1 H1 h r R1 S => one m2 R1 h fun e u M2 H2 h r2 R2 S2 => f d e v u M2 H2 h (r.mono S2) r2 R2 (S.trans S2)
theorem ones {w : Env → Mem → (List D → Mem → Prop) → Prop} (m : ∀ ρ M (Q Q' : List D → Mem → Prop), (∀ d M, Q d M → Q' d M) → w ρ M Q → w ρ M Q') (R : RelS K A ρ M σ H) {P : List D → Mem → Prop} {k : List V → Hp → Prop} (q : w ρ M P)
    (f : ∀ d v M1 H1, P d M1 → Reps K A.Z M1 H1 v d → RelS K A ρ M1 σ H1 → Stp M H M1 H1 → k v H1) : tds K A w σ H k :=
  ⟨ρ, M, R, m _ _ _ _ (fun d M1 h v H1 r R1 S => f d v M1 H1 h r R1 S) q⟩
theorem KRep.zipK {Z : Addr → Prop} : ∀ (ks : List Str) (vs : List V) (ds : List D), ds.length = ks.length → Reps K Z M H vs ds → KRep K Z M H ((ks.zip vs).map fun p => ((.inr p.1 : Key), p.2)) (disp1 ks ds)
  | [], [], [], _, _ => .nil
  | k :: ks, v :: vs, d :: ds, e, .cons a r => .cons ⟨rfl, a⟩ (KRep.zipK ks vs ds (by simpa using e) r)
  | [], _ :: _, _ :: _, e, _ => by simp at e
  | _ :: _, _, [], e, _ => by simp at e
end
theorem merge_nd : ∀ (kvs acc : List (Key × V)), (∀ p ∈ kvs, ¬ p.1 ∈ acc.map (·.1)) → (kvs.map (·.1)).Nodup → mergeK acc kvs = acc ++ kvs
  | [], acc, _, _ => by simp [mergeK]
  | p :: kvs, acc, h, nd => by
    have e : putK acc p.1 p.2 = acc ++ [p] := by
      unfold putK
      rw [if_neg]
      intro z
      obtain ⟨q, hq, e⟩ := List.any_eq_true.mp z
      exact h p List.mem_cons_self (List.mem_map.mpr ⟨q, hq, of_decide_eq_true e⟩)
    show mergeK (putK acc p.1 p.2) kvs = _
    rw [List.map_cons, List.nodup_cons] at nd
    rw [e, merge_nd kvs (acc ++ [p]) (fun q hq z => ?_) nd.2, List.append_assoc]
    · rfl
    · rw [List.map_append, List.mem_append] at z
      rcases z with z | z
      · exact h q (List.mem_cons_of_mem _ hq) z
      · have : q.1 = p.1 := by simpa using z
        exact nd.1 (List.mem_map.mpr ⟨q, hq, this⟩)
/-- a dict that was laid on the way is taken into the store -/
theorem Rep.adopt {K : PySem.W.Frag} {Z : Addr → Prop} {M : Mem} {H : Hp} {p : Addr} {o : MO} {u : HO} {kv : List (Key × V)} (hp : H p = some (.dK kv)) (hM : M p = none) : 
    (∀ {v d}, Rep K Z M H v d → Rep K Z (put M p o) (upd H p u) v d) := by
  have tup : ∀ {a xs}, TupAt K M H a xs → TupAt K (put M p o) (upd H p u) a xs := fun {a xs} h => by
    rcases h with ⟨h, n⟩ | h
    · have ne : a ≠ p := by
        rintro rfl
        rcases h with h | ⟨_, h⟩ <;> (rw [hp] at h; cases h)
      refine .inl ⟨?_, by rw [put_ne ne]; exact n⟩
      rcases h with h | ⟨ob, h⟩
      · exact .inl (by rw [upd_ne ne]; exact h)
      · exact .inr ⟨ob, by rw [upd_ne ne]; exact h⟩
    · exact .inr h
  have scr : ∀ {a xs}, ScrAt K Z M H a xs → ScrAt K Z (put M p o) (upd H p u) a xs := fun {a xs} h => by
    rcases h with ⟨h, n, z⟩ | h
    · have ne : a ≠ p := by
        rintro rfl
        rcases h with h | ⟨_, h⟩ <;> (rw [hp] at h; cases h)
      refine .inl ⟨?_, by rw [put_ne ne]; exact n, z⟩
      rcases h with h | ⟨ob, h⟩
      · exact .inl (by rw [upd_ne ne]; exact h)
      · exact .inr ⟨ob, by rw [upd_ne ne]; exact h⟩
    · exact .inr h
  intro v d h9
  refine Rep.rec (motive_1 := fun v d _ => Rep K Z (put M p o) (upd H p u) v d) (motive_2 := fun vs ds _ => Reps K Z (put M p o) (upd H p u) vs ds) ?_ ?_ ?_ ?_ ?_ ?_ ?_ ?_ ?_ ?_ ?_ h9
  · exact .non
  · exact fun b => .bl b
  · exact fun b => .int b
  · exact fun b => .str b
  · exact fun h _ r => .tup (tup h) r
  · intro a xs ds h n z _ r
    have ne : a ≠ p := by
      rintro rfl
      rw [hp] at h; cases h
    exact .lst (by rw [upd_ne ne]; exact h) (by rw [put_ne ne]; exact n) z r
  · exact fun h _ r => .scr (scr h) r
  · intro a ob h
    have ne : a ≠ p := by
      rintro rfl
      rw [hM] at h; cases h
    exact .ref (o := ob) (by rw [put_ne ne]; exact h)
  · exact fun c a => .exn c a
  · exact .nil
  · exact fun _ _ a b => .cons a b
theorem Reps.adopt {K : PySem.W.Frag} {Z : Addr → Prop} {M : Mem} {H : Hp} {p : Addr} {o : MO} {u : HO} {kv : List (Key × V)} (hp : H p = some (.dK kv)) (hM : M p = none) :
    ∀ {vs ds}, Reps K Z M H vs ds → Reps K Z (put M p o) (upd H p u) vs ds
  | _, _, .nil => .nil
  | _, _, .cons a r => .cons (Rep.adopt hp hM a) (Reps.adopt hp hM r)
theorem KRep.adopt {κ : Type} {K : PySem.W.Frag} {Z : Addr → Prop} {M : Mem} {H : Hp} {p : Addr} {o : MO} {u : HO} {kv : List (Key × V)} (hp : H p = some (.dK kv)) (hM : M p = none) :
    ∀ {vs : List (κ × V)} {ds : List (κ × D)}, KRep K Z M H vs ds → KRep K Z (put M p o) (upd H p u) vs ds
  | _, _, .nil => .nil
  | _, _, .cons a r => .cons ⟨a.1, Rep.adopt hp hM a.2⟩ (KRep.adopt hp hM r)
theorem MObj.adopt {K : PySem.W.Frag} {Z : Addr → Prop} {M : Mem} {H : Hp} {p : Addr} {o : MO} {u : HO} {kv : List (Key × V)} (hp : H p = some (.dK kv)) (hM : M p = none) {a : Addr} {w : MO} (ne : a ≠ p) (h : MObj K Z M H a w) :
    MObj K Z (put M p o) (upd H p u) a w := by
  cases w with
  | lst ds => obtain ⟨xs, h1, h2⟩ := h; exact ⟨xs, (upd_ne ne).trans h1, h2.adopt hp hM⟩
  | dK ds => obtain ⟨xs, h1, h2⟩ := h; exact ⟨xs, (upd_ne ne).trans h1, h2.adopt hp hM⟩
  | dT ds => obtain ⟨xs, h1, h2⟩ := h; exact ⟨xs, (upd_ne ne).trans h1, h2.adopt hp hM⟩
  | xd ds => obtain ⟨xs, h1, h2⟩ := h; exact ⟨xs, (upd_ne ne).trans h1, h2.adopt hp hM⟩
theorem adopt_all {K : PySem.W.Frag} {A : An} {ρ : Env} {σ : St} {M0 M : Mem} {H0 H : Hp} {p : Addr} {kvs : List (Key × V)} {ds : List (Key × D)} (R0 : RelS K A ρ M0 σ H0) (h0 : H0 p = none) (R : RelS K A ρ M σ H) (S : Stp M0 (upd H0 p (.dK [])) M H) (hp : H p = some (.dK []))
    (r : KRep K A.Z M H kvs ds) : Rep K A.Z (put M p (.dK ds)) (upd H p (.dK kvs)) (.ref p) (.ref p) ∧ RelS K A ρ (put M p (.dK ds)) σ (upd H p (.dK kvs)) ∧ Stp M0 H0 (put M p (.dK ds)) (upd H p (.dK kvs)) := by
  have hM0 : M0 p = none := R0.mem.free h0
  have hM : M p = none := S.free p _ upd_same hM0
  have St : Stp M0 H0 (put M p (.dK ds)) (upd H p (.dK kvs)) := by
    refine ⟨fun a o e n => ?_, fun a o e n => ?_, fun a o e => ?_⟩
    · have ne : a ≠ p := ne_of_none e h0
      rw [upd_ne ne]
      exact S.keep a o (by rw [upd_ne ne]; exact e) n
    · have ne : a ≠ p := ne_of_none e h0
      rw [put_ne ne]
      exact S.free a o (by rw [upd_ne ne]; exact e) n
    · obtain ⟨o', e'⟩ := S.own a o e
      have ne : a ≠ p := by rintro rfl; rw [hM] at e'; cases e'
      exact ⟨o', by rw [put_ne ne]; exact e'⟩
  refine ⟨.ref put_same, ?_, St⟩
  have zp : ¬ A.Z p := R0.mem.nzf h0
  refine ⟨fun i d e => ?_, R.len, ⟨fun a o e => ?_, fun a o e => ?_, fun a z => ?_⟩, A.cl R0.stp St⟩
  · obtain ⟨v, h1, h2⟩ := R.slot i d e
    exact ⟨v, h1, h2.adopt hp hM⟩
  · by_cases q : a = p
    · subst q; rw [put_same] at e; cases e
      exact ⟨kvs, upd_same, r.adopt hp hM⟩
    · rw [put_ne q] at e
      exact (R.mem.obj a o e).adopt hp hM q
  · by_cases q : a = p
    · subst q; exact zp
    · rw [put_ne q] at e
      exact R.mem.nz a o e
  · obtain ⟨o, e⟩ := R.mem.zt a z
    have q : a ≠ p := by rintro rfl; exact zp z
    exact ⟨o, by rw [upd_ne q]; exact e⟩
/-- what a comprehension's block hides -/
theorem Rep.hide {K : PySem.W.Frag} {Z : Addr → Prop} {M : Mem} {H : Hp} {p : Addr} (hp : H p = none) : ∀ {v d}, Rep K Z M H v d → Rep K (fun a => Z a ∨ a = p) M H v d := by
  intro v d h9
  refine Rep.rec (motive_1 := fun v d _ => Rep K (fun a => Z a ∨ a = p) M H v d) (motive_2 := fun vs ds _ => Reps K (fun a => Z a ∨ a = p) M H vs ds) ?_ ?_ ?_ ?_ ?_ ?_ ?_ ?_ ?_ ?_ ?_ h9
  · exact .non
  · exact fun b => .bl b
  · exact fun b => .int b
  · exact fun b => .str b
  · exact fun h _ r => .tup h r
  · intro a xs ds h n z _ r
    refine .lst h n (fun q => q.elim z fun q => ?_) r
    subst q
    rw [hp] at h; cases h
  · intro a xs ds h _ r
    refine .scr ?_ r
    rcases h with ⟨h, n, z⟩ | h
    · refine .inl ⟨h, n, fun q => q.elim z fun q => ?_⟩
      subst q
      rcases h with h | ⟨_, h⟩ <;> (rw [hp] at h; cases h)
    · exact .inr h
  · exact fun h => .ref h
  · exact fun c a => .exn c a
  · exact .nil
  · exact fun _ _ a b => .cons a b
theorem Reps.hide {K : PySem.W.Frag} {Z : Addr → Prop} {M : Mem} {H : Hp} {p : Addr} (hp : H p = none) : ∀ {vs ds}, Reps K Z M H vs ds → Reps K (fun a => Z a ∨ a = p) M H vs ds
  | _, _, .nil => .nil
  | _, _, .cons a r => .cons (Rep.hide hp a) (Reps.hide hp r)
theorem KRep.hide {κ : Type} {K : PySem.W.Frag} {Z : Addr → Prop} {M : Mem} {H : Hp} {p : Addr} (hp : H p = none) : ∀ {vs : List (κ × V)} {ds : List (κ × D)}, KRep K Z M H vs ds → KRep K (fun a => Z a ∨ a = p) M H vs ds
  | _, _, .nil => .nil
  | _, _, .cons a r => .cons ⟨a.1, Rep.hide hp a.2⟩ (KRep.hide hp r)
theorem Rep.bare {K : PySem.W.Frag} {Z Z' : Addr → Prop} {M : Mem} {H : Hp} (hz : ∀ a, Z a → Z' a) : ∀ {v d}, Rep K Z' M H v d → Rep K Z M H v d := by
  intro v d h9
  refine Rep.rec (motive_1 := fun v d _ => Rep K Z M H v d) (motive_2 := fun vs ds _ => Reps K Z M H vs ds) ?_ ?_ ?_ ?_ ?_ ?_ ?_ ?_ ?_ ?_ ?_ h9
  · exact .non
  · exact fun b => .bl b
  · exact fun b => .int b
  · exact fun b => .str b
  · exact fun h _ r => .tup h r
  · exact fun h n z _ r => .lst h n (fun q => z (hz _ q)) r
  · intro a xs ds h _ r
    refine .scr ?_ r
    rcases h with ⟨h, n, z⟩ | h
    · exact .inl ⟨h, n, fun q => z (hz _ q)⟩
    · exact .inr h
  · exact fun h => .ref h
  · exact fun c a => .exn c a
  · exact .nil
  · exact fun _ _ a b => .cons a b
theorem Reps.bare {K : PySem.W.Frag} {Z Z' : Addr → Prop} {M : Mem} {H : Hp} (hz : ∀ a, Z a → Z' a) : ∀ {vs ds}, Reps K Z' M H vs ds → Reps K Z M H vs ds
  | _, _, .nil => .nil
  | _, _, .cons a r => .cons (Rep.bare hz a) (Reps.bare hz r)
theorem KRep.bare {κ : Type} {K : PySem.W.Frag} {Z Z' : Addr → Prop} {M : Mem} {H : Hp} (hz : ∀ a, Z a → Z' a) : ∀ {vs : List (κ × V)} {ds : List (κ × D)}, KRep K Z' M H vs ds → KRep K Z M H vs ds
  | _, _, .nil => .nil
  | _, _, .cons a r => .cons ⟨a.1, Rep.bare hz a.2⟩ (KRep.bare hz r)
/-- the anchor of a block: p, the new list, hidden -/
def An.blk (A : An) (p : Addr) : An := ⟨fun a => A.Z a ∨ a = p, fun _ _ => True, fun _ _ => trivial⟩
theorem MObj.via {K : PySem.W.Frag} {Z Z' : Addr → Prop} {M M' : Mem} {H H' : Hp} {a : Addr} {o : MO} (e : H' a = H a) (f : ∀ {v d}, Rep K Z M H v d → Rep K Z' M' H' v d) (h : MObj K Z M H a o) : MObj K Z' M' H' a o := by
  have fs : ∀ {vs ds}, Reps K Z M H vs ds → Reps K Z' M' H' vs ds := by
    intro vs ds r
    induction vs generalizing ds with
    | nil => cases r; exact .nil
    | cons v vs ih => cases r with
      | cons a r => exact .cons (f a) (ih r)
  have fk : ∀ {κ : Type} {vs : List (κ × V)} {ds : List (κ × D)}, KRep K Z M H vs ds → KRep K Z' M' H' vs ds := by
    intro κ vs ds r
    induction r with
    | nil => exact .nil
    | cons a r ih => exact .cons ⟨a.1, f a.2⟩ ih
  cases o with
  | lst ds => obtain ⟨xs, h1, h2⟩ := h; exact ⟨xs, e.trans h1, fs h2⟩
  | dK ds => obtain ⟨xs, h1, h2⟩ := h; exact ⟨xs, e.trans h1, fk h2⟩
  | dT ds => obtain ⟨xs, h1, h2⟩ := h; exact ⟨xs, e.trans h1, fk h2⟩
  | xd ds => obtain ⟨xs, h1, h2⟩ := h; exact ⟨xs, e.trans h1, fk h2⟩
theorem RelS.blk {K : PySem.W.Frag} {A : An} {ρ : Env} {σ : St} {M : Mem} {H : Hp} {p : Addr} {xs : List V} (R : RelS K A ρ M σ H) (hp : H p = none) : RelS K (A.blk p) ρ M σ (upd H p (.lst xs)) := by
  have S : Stp M H M (upd H p (.lst xs)) := Stp.laid R.mem hp
  refine ⟨fun i d e => ?_, R.len, ⟨fun a o e => ?_, fun a o e z => ?_, fun a z => ?_⟩, trivial⟩
  · obtain ⟨v, h1, h2⟩ := R.slot i d e
    exact ⟨v, h1, (h2.hide hp).mono S⟩
  · have h := R.mem.obj a o e
    obtain ⟨w, q⟩ := h.there
    exact h.via (upd_ne (ne_of_none q hp)) fun r => (r.hide hp).mono S
  · rcases z with z | rfl
    · exact R.mem.nz a o e z
    · rw [R.mem.free hp] at e; cases e
  · rcases z with z | rfl
    · obtain ⟨o, e⟩ := R.mem.zt a z
      exact ⟨o, (upd_ne (ne_of_none e hp)).trans e⟩
    · exact ⟨_, upd_same⟩
/-- the hidden list is written: nothing leans on it -/
theorem Rep.hw {K : PySem.W.Frag} {Z : Addr → Prop} {M : Mem} {H : Hp} {p : Addr} {xs ys : List V} (hz : Z p) (hp : H p = some (.lst xs)) : ∀ {v d}, Rep K Z M H v d → Rep K Z M (upd H p (.lst ys)) v d := by
  intro v d h9
  refine Rep.rec (motive_1 := fun v d _ => Rep K Z M (upd H p (.lst ys)) v d) (motive_2 := fun vs ds _ => Reps K Z M (upd H p (.lst ys)) vs ds) ?_ ?_ ?_ ?_ ?_ ?_ ?_ ?_ ?_ ?_ ?_ h9
  · exact .non
  · exact fun b => .bl b
  · exact fun b => .int b
  · exact fun b => .str b
  · intro a xs ds h _ r
    refine .tup ?_ r
    rcases h with ⟨h, n⟩ | h
    · have ne : a ≠ p := by
        rintro rfl
        rcases h with h | ⟨_, h⟩ <;> (rw [hp] at h; cases h)
      refine .inl ⟨?_, n⟩
      rcases h with h | ⟨ob, h⟩
      · exact .inl (by rw [upd_ne ne]; exact h)
      · exact .inr ⟨ob, by rw [upd_ne ne]; exact h⟩
    · exact .inr h
  · intro a xs ds h n z _ r
    have ne : a ≠ p := by
      rintro rfl
      exact z hz
    exact .lst (by rw [upd_ne ne]; exact h) n z r
  · intro a xs ds h _ r
    refine .scr ?_ r
    rcases h with ⟨h, n, z⟩ | h
    · have ne : a ≠ p := by
        rintro rfl
        exact z hz
      refine .inl ⟨?_, n, z⟩
      rcases h with h | ⟨ob, h⟩
      · exact .inl (by rw [upd_ne ne]; exact h)
      · exact .inr ⟨ob, by rw [upd_ne ne]; exact h⟩
    · exact .inr h
  · exact fun h => .ref h
  · exact fun c a => .exn c a
  · exact .nil
  · exact fun _ _ a b => .cons a b
theorem Reps.hw {K : PySem.W.Frag} {Z : Addr → Prop} {M : Mem} {H : Hp} {p : Addr} {xs ys : List V} (hz : Z p) (hp : H p = some (.lst xs)) : ∀ {vs ds}, Reps K Z M H vs ds → Reps K Z M (upd H p (.lst ys)) vs ds
  | _, _, .nil => .nil
  | _, _, .cons a r => .cons (Rep.hw hz hp a) (Reps.hw hz hp r)
theorem RelS.hw {K : PySem.W.Frag} {A : An} {ρ : Env} {σ : St} {M : Mem} {H : Hp} {p : Addr} {xs ys : List V} (R : RelS K (A.blk p) ρ M σ H) (hp : H p = some (.lst xs)) : RelS K (A.blk p) ρ M σ (upd H p (.lst ys)) := by
  have hz : (A.blk p).Z p := .inr rfl
  refine ⟨fun i d e => ?_, R.len, ⟨fun a o e => ?_, R.mem.nz, fun a z => ?_⟩, trivial⟩
  · obtain ⟨v, h1, h2⟩ := R.slot i d e
    exact ⟨v, h1, h2.hw hz hp⟩
  · have ne : a ≠ p := by
      rintro rfl
      exact R.mem.nz _ o e hz
    exact (R.mem.obj a o e).via (upd_ne ne) fun r => r.hw hz hp
  · by_cases q : a = p
    · subst q; exact ⟨_, upd_same⟩
    · obtain ⟨o, e⟩ := R.mem.zt a z
      exact ⟨o, (upd_ne q).trans e⟩
theorem JB.hw {K : PySem.W.Frag} {Z : Addr → Prop} {M : Mem} {H : Hp} {J : It} {src : Src} {p : Addr} {xs ys : List V} (hz : Z p) (hp : H p = some (.lst xs)) (h : JB K Z M H J src) : JB K Z M (upd H p (.lst ys)) J src := by
  rcases h with ⟨a, d, h1, h2, h3, h4⟩ | ⟨a, d, h1, h2, h3⟩ | h
  · exact .inl ⟨a, d, h1, h2.hw hz hp, h3, h4⟩
  · exact .inr (.inl ⟨a, d, h1, h2.hw hz hp, h3⟩)
  · exact .inr (.inr h)
/-- all but p stays -/
structure StpX (p : Addr) (M : Mem) (H : Hp) (M' : Mem) (H' : Hp) : Prop where
  keep : ∀ a o, a ≠ p → H a = some o → M a = none → H' a = some o
  free : ∀ a o, a ≠ p → H a = some o → M a = none → M' a = none
  own : ∀ a o, M a = some o → ∃ o', M' a = some o'
theorem StpX.trans {p : Addr} {M M1 M2 : Mem} {H H1 H2 : Hp} (a : StpX p M H M1 H1) (b : StpX p M1 H1 M2 H2) : StpX p M H M2 H2 :=
  ⟨fun x o e h n => b.keep x o e (a.keep x o e h n) (a.free x o e h n), fun x o e h n => b.free x o e (a.keep x o e h n) (a.free x o e h n), fun x o h => let ⟨o', h'⟩ := a.own x o h; b.own x o' h'⟩
theorem Stp.x {p : Addr} {M M1 : Mem} {H H1 : Hp} (a : Stp M H M1 H1) : StpX p M H M1 H1 := ⟨fun x o _ h n => a.keep x o h n, fun x o _ h n => a.free x o h n, a.own⟩
theorem StpX.w {p : Addr} {M : Mem} {H : Hp} {o : HO} : StpX p M H M (upd H p o) := ⟨fun x u e h _ => by rw [upd_ne e]; exact h, fun _ _ _ _ n => n, fun _ o h => ⟨o, h⟩⟩
theorem StpX.out {p : Addr} {M M1 : Mem} {H H1 : Hp} (a : StpX p M H M1 H1) (hp : H p = none) : Stp M H M1 H1 :=
  ⟨fun x o h n => a.keep x o (ne_of_none h hp) h n, fun x o h n => a.free x o (ne_of_none h hp) h n, a.own⟩
/-- out of a block: what was said ahead of it, over the state behind it -/
theorem RelS.unblk {K : PySem.W.Frag} {A : An} {ρ ρ' : Env} {σ σ' : St} {M M1 : Mem} {H H1 : Hp} {p : Addr} (R : RelS K A ρ M σ H) (R1 : RelS K (A.blk p) ρ' M1 σ' H1) (S : Stp M H M1 H1) : RelS K A ρ M1 σ H1 :=
  R.step S ⟨fun a o e => (R1.mem.obj a o e).via rfl fun r => r.bare fun _ z => .inl z, fun a o e z => R1.mem.nz a o e (.inl z), fun a z => R1.mem.zt a (.inl z)⟩
theorem Rep.monoX {K : PySem.W.Frag} {Z : Addr → Prop} {M M' : Mem} {H H' : Hp} {p : Addr} {xs : List V} (hz : Z p) (hp : H p = some (.lst xs)) (S : StpX p M H M' H') : ∀ {v d}, Rep K Z M H v d → Rep K Z M' H' v d := by
  intro v d h9
  refine Rep.rec (motive_1 := fun v d _ => Rep K Z M' H' v d) (motive_2 := fun vs ds _ => Reps K Z M' H' vs ds) ?_ ?_ ?_ ?_ ?_ ?_ ?_ ?_ ?_ ?_ ?_ h9
  · exact .non
  · exact fun b => .bl b
  · exact fun b => .int b
  · exact fun b => .str b
  · intro a xs ds h _ r
    refine .tup ?_ r
    rcases h with ⟨h, n⟩ | h
    · have ne : a ≠ p := by
        rintro rfl
        rcases h with h | ⟨_, h⟩ <;> (rw [hp] at h; cases h)
      rcases h with h | ⟨ob, h⟩
      · exact .inl ⟨.inl (S.keep _ _ ne h n), S.free _ _ ne h n⟩
      · exact .inl ⟨.inr ⟨ob, S.keep _ _ ne h n⟩, S.free _ _ ne h n⟩
    · exact .inr h
  · intro a xs ds h n z _ r
    have ne : a ≠ p := by
      rintro rfl
      exact z hz
    exact .lst (S.keep _ _ ne h n) (S.free _ _ ne h n) z r
  · intro a xs ds h _ r
    refine .scr ?_ r
    rcases h with ⟨h, n, z⟩ | h
    · have ne : a ≠ p := by
        rintro rfl
        exact z hz
      rcases h with h | ⟨ob, h⟩
      · exact .inl ⟨.inl (S.keep _ _ ne h n), S.free _ _ ne h n, z⟩
      · exact .inl ⟨.inr ⟨ob, S.keep _ _ ne h n⟩, S.free _ _ ne h n, z⟩
    · exact .inr h
  · intro a o h
    obtain ⟨o', h'⟩ := S.own _ _ h
    exact .ref h'
  · exact fun c a => .exn c a
  · exact .nil
  · exact fun _ _ a b => .cons a b
/-- the hidden list comes to be owned -/
theorem Rep.owned {K : PySem.W.Frag} {Z : Addr → Prop} {M : Mem} {H : Hp} {p : Addr} {o : MO} {xs : List V} (hp : H p = some (.lst xs)) (hM : M p = none) : ∀ {v d}, Rep K (fun a => Z a ∨ a = p) M H v d → Rep K Z (put M p o) H v d := by
  intro v d h9
  refine Rep.rec (motive_1 := fun v d _ => Rep K Z (put M p o) H v d) (motive_2 := fun vs ds _ => Reps K Z (put M p o) H vs ds) ?_ ?_ ?_ ?_ ?_ ?_ ?_ ?_ ?_ ?_ ?_ h9
  · exact .non
  · exact fun b => .bl b
  · exact fun b => .int b
  · exact fun b => .str b
  · intro a xs ds h _ r
    refine .tup ?_ r
    rcases h with ⟨h, n⟩ | h
    · have ne : a ≠ p := by
        rintro rfl
        rcases h with h | ⟨_, h⟩ <;> (rw [hp] at h; cases h)
      exact .inl ⟨h, by rw [put_ne ne]; exact n⟩
    · exact .inr h
  · intro a xs ds h n z _ r
    have ne : a ≠ p := fun q => z (.inr q)
    exact .lst h (by rw [put_ne ne]; exact n) (fun q => z (.inl q)) r
  · intro a xs ds h _ r
    refine .scr ?_ r
    rcases h with ⟨h, n, z⟩ | h
    · have ne : a ≠ p := fun q => z (.inr q)
      exact .inl ⟨h, by rw [put_ne ne]; exact n, fun q => z (.inl q)⟩
    · exact .inr h
  · intro a o h
    have ne : a ≠ p := by rintro rfl; rw [hM] at h; cases h
    exact .ref (by rw [put_ne ne]; exact h)
  · exact fun c a => .exn c a
  · exact .nil
  · exact fun _ _ a b => .cons a b
theorem Reps.owned {K : PySem.W.Frag} {Z : Addr → Prop} {M : Mem} {H : Hp} {p : Addr} {o : MO} {xs : List V} (hp : H p = some (.lst xs)) (hM : M p = none) : ∀ {vs ds}, Reps K (fun a => Z a ∨ a = p) M H vs ds → Reps K Z (put M p o) H vs ds
  | _, _, .nil => .nil
  | _, _, .cons a r => .cons (Rep.owned hp hM a) (Reps.owned hp hM r)
theorem RelS.owned {K : PySem.W.Frag} {A : An} {ρ ρ' : Env} {σ σ' : St} {M M1 : Mem} {H H1 : Hp} {p : Addr} {vs : List V} {ds : List D} (R : RelS K A ρ M σ H) (hp : H p = none) (R1 : RelS K (A.blk p) ρ' M1 σ' H1) (S : StpX p M H M1 H1) (h1 : H1 p = some (.lst vs))
    (r : Reps K (A.blk p).Z M1 H1 vs ds) : RelS K A ρ (put M1 p (.lst ds)) σ H1 ∧ Stp M H (put M1 p (.lst ds)) H1 := by
  have hz : (A.blk p).Z p := .inr rfl
  have hM : M1 p = none := by
    cases q : M1 p with
    | none => rfl
    | some o => exact absurd hz (R1.mem.nz _ o q)
  have So := S.out hp
  have St : Stp M H (put M1 p (.lst ds)) H1 := ⟨fun a o e n => So.keep a o e n, fun a o e n => by rw [put_ne (ne_of_none e hp)]; exact So.free a o e n, fun a o e => by
    obtain ⟨o', e'⟩ := So.own a o e
    have ne : a ≠ p := by rintro rfl; rw [hM] at e'; cases e'
    exact ⟨o', by rw [put_ne ne]; exact e'⟩⟩
  have S1 : StpX p M (upd H p (.lst [])) M1 H1 := ⟨fun a o ne e n => S.keep a o ne (by rw [upd_ne ne] at e; exact e) n, fun a o ne e n => S.free a o ne (by rw [upd_ne ne] at e; exact e) n, S.own⟩
  refine ⟨⟨fun i d e => ?_, R.len, ⟨fun a o e => ?_, fun a o e z => ?_, fun a z => R1.mem.zt a (.inl z)⟩, A.cl R.stp St⟩, St⟩
  · obtain ⟨v, g1, g2⟩ := (R.blk (xs := []) hp).slot i d e
    exact ⟨v, g1, Rep.owned h1 hM (Rep.monoX (p := p) (.inr rfl) upd_same S1 g2)⟩
  · by_cases q : a = p
    · subst q; rw [put_same] at e; cases e
      exact ⟨vs, h1, Reps.owned h1 hM r⟩
    · rw [put_ne q] at e
      exact (R1.mem.obj a o e).via rfl fun r => Rep.owned h1 hM r
  · by_cases q : a = p
    · subst q; exact R.mem.nzf hp z
    · rw [put_ne q] at e
      exact R1.mem.nz a o e (.inl z)
end DL
set_option Elab.async false
set_option linter.all false
set_option maxRecDepth 100000
namespace DL
open PySem PySem.Spec PyProof.Rows L2
theorem mE {Γ : List DSp} {gs : List D} (e : IE) (E : Exn → Mem → Prop) : MonoW (fun ρ M Q => sE Γ gs e ρ M Q E) := fun _ _ _ _ hQ h => sE_mono e hQ (fun _ _ h => h) h
theorem mEs {Γ : List DSp} {gs : List D} (e : IEs) (E : Exn → Mem → Prop) : ∀ ρ M (Q Q' : List D → Mem → Prop), (∀ d M, Q d M → Q' d M) → sEs Γ gs e ρ M Q E → sEs Γ gs e ρ M Q' E := fun _ _ _ _ hQ h => sEs_mono e hQ (fun _ _ h => h) h
theorem rel_names {X : Cx} {c : Cc} {scope : Scope} (sn : X.env.scope.names = c.sn) (kd : X.env.scope.kind = .function) : (relabel scope X.env).names = relN scope.names c.sn := by
  show scope.names.map _ = scope.names.map _
  refine List.map_congr_left fun p _ => ?_
  obtain ⟨n, k⟩ := p
  show (if (k == .free && X.env.scope.kind == .function && X.env.scope.names.lookup n == some .cell) = true then (n, NameKind.cell) else (n, k)) = if (k == .free && c.sn.lookup n == some .cell) = true then (n, NameKind.cell) else (n, k)
  rw [sn, kd]
  simp
theorem CtxE.blk {c : Cc} {Γ : List DSp} {gs : List D} {ca : Nat → Addr} {X : Cx} (h : CtxE c Γ gs ca X) {scope : Scope} (hk : scope.kind = .function) (s : Shared) (H : Hp) (C : Addr) (cl : List (Str × Addr)) (fp : List Addr) :
    CtxE { c with sn := relN scope.names c.sn } Γ gs ca (X.blk s H scope (compEnvC scope cl C X.env) fp) where
  N := h.N
  nd := h.nd
  sn := rel_names h.sn h.kind
  kind := hk
  calm := h.calm
  room := h.room
  fns := h.fns
  gl := h.gl
  blt := h.blt
  nf := h.nf
  ng := h.ng
  gcd := h.gcd
theorem blk_ok {N : List Str} {sn : List (Str × NameKind)} {sc scope : Scope} {own : List (Str × Nat)} (e : sc.names = sn) (h : blkC N (scOf sn) scope own = true) : BlkOk N sc scope own := by
  have b := blkOk_by h
  exact ⟨b.kind, b.uniq, b.ix, fun y hy f => by rw [e]; exact b.free y hy f, b.own⟩
theorem sto_blk {X : Cx} {N : List Str} {scope : Scope} {own : List (Str × Nat)} (hN : X.N = N) (h : ownB N scope.names own = true) (s : Shared) (H : Hp) (C : Addr) (cl : List (Str × Addr)) (fp : List Addr) : StoOk (X.blk s H scope (compEnvC scope cl C X.env) fp) own := by
  intro p hp
  have q := List.all_eq_true.mp h p hp
  obtain ⟨h1, h2⟩ := and2 q
  unfold locB at h2
  have keep : ∀ {k : NameKind}, k ≠ .free → scope.names.lookup p.1 = some k → (relabel scope X.env).names.lookup p.1 = some k := fun nf e => lookup_relS_keep (sc := X.env.scope) nf e
  refine ⟨by show X.N[p.2]? = _; rw [hN]; exact of_decide_eq_true h1, ?_⟩
  cases q : scope.names.lookup p.1 with
  | none => rw [q] at h2; cases h2
  | some k =>
    rw [q] at h2
    cases k with
    | «local» =>
      have e := keep (by decide) q
      exact ⟨.inl e, .inr e⟩
    | cell =>
      have e := keep (by decide) q
      refine ⟨.inr e, .inl ?_⟩
      show (scope.names.lookup p.1 == some .cell) = true
      rw [q]; rfl
    | _ => cases h2
theorem pi_any {X : Cx} {tg l : Expr} {tl : TE} (hl : PE X l tl) : PI X tg l (fun σ H R => tl σ H fun x H1 => ∃ a, x = .ref a ∧ ((∃ xs, SqL X.K H1 a xs) ∧ R (Itl X.K a) H1 ∨ (∃ xs, SqT X.K H1 a xs) ∧ R (Itt X.K a) H1)) := by
  refine ⟨fun pins s σ H R I h => ?_⟩
  refine thn (hl.run pins s σ H _ I h) fun v s1 ⟨x, H1, I1, r1, q1⟩ => ?_
  obtain ⟨a, e, q⟩ := q1
  subst e
  cases r1
  rcases q with ⟨⟨xs, hq⟩, q⟩ | ⟨⟨xs, hq⟩, q⟩
  · obtain ⟨its, rv, p, hz⟩ := I1.list hq
    refine wpAny_pyIter_list p.isList ?_
    refine ⟨s1.heap.objs.size, [s1.heap.objs.size], _, _, H1, rfl, I1.kept (t' := s1.toks) fun b o e => Heap.get?_push_of_some _ e, turn_list a _, ⟨_, Heap.get?_push_size _ rfl, rfl, rfl⟩, fun b hb => ?_, q⟩
    have e : b = s1.heap.objs.size := by simpa using hb
    subst e
    exact I1.fpOk (Nat.le_refl _) (I1.hok.fresh (Nat.le_refl _))
  · obtain ⟨its, rv, p, hz⟩ := I1.tuple hq
    refine wpAny_pyIter_tuple (show s1.heap.IsTuple a its.toArray from p) ?_
    refine ⟨s1.heap.objs.size, [s1.heap.objs.size], _, _, H1, rfl, I1.kept (t' := s1.toks) fun b o e => Heap.get?_push_of_some _ e, turn_tuple a _, ⟨_, Heap.get?_push_size _ rfl, rfl, rfl⟩, fun b hb => ?_, q⟩
    have e : b = s1.heap.objs.size := by simpa using hb
    subst e
    exact I1.fpOk (Nat.le_refl _) (I1.hok.fresh (Nat.le_refl _))
theorem PI.imp {X : Cx} {tg e : Expr} {t t' : TI} (h : PI X tg e t) (k : ∀ σ H Q, t' σ H Q → t σ H Q) : PI X tg e t' := ⟨fun pins s σ H Q I q => h.run pins s σ H Q I (k σ H Q q)⟩
/-- the reading of a comprehension -/
theorem lc_read {K : PySem.W.Frag} {A : An} {ρ : Env} {σ : St} {M : Mem} {H1 : Hp} {J : It} {src : Src} {t : Tg} {own : Bool} {wt : Env → Mem → (Bool → Mem → Prop) → Prop} {we : Env → Mem → (D → Mem → Prop) → Prop}
    (mt : ∀ ρ M (Q Q' : Bool → Mem → Prop), (∀ b M, Q b M → Q' b M) → wt ρ M Q → wt ρ M Q') (me : MonoW we) {Q : VK}
    (R : RelS K A ρ M σ H1) (jb : JB K A.Z M H1 J src) (kp : src.keep M)
    (h : lcL src.keep (tgW t) wt we (wipeE ρ (tgSlots t)) src.xs [] M fun acc M2 => newL own acc M2 (kc K A ρ σ M H1 Q)) :
    ∀ D, H1 D = none → ∃ W : Nat → Nat → Hp → Prop, (∃ m, W 0 m (upd H1 D (.lst []))) ∧ ∀ i m H, W i m H →
      (J.stop i H ∧ Q (.ref D) H) ∨ (J.go i H ∧ ∃ Nx : Hp → Prop, (∀ H', Nx H' → ∃ m', m' < m ∧ W (i + 1) m' H') ∧ ∀ x H', J.yld i H x H' → gT K t x (wipe σ (tgSlots t)) H' fun σ2 H2 => wipe σ2 (tgSlots t) = wipe σ (tgSlots t) ∧
        tb K (A.blk D) wt σ2 H2 fun b H3 => if b = true then td K (A.blk D) we σ2 H3 fun y H4 => ∃ acc, H4 D = some (.lst acc) ∧ acc.length < sizeLine ∧ Nx (upd H4 D (.lst (acc ++ [y]))) else Nx H3) := by
  intro Dd hD
  have hz : (A.blk Dd).Z Dd := .inr rfl
  have free : ∀ {M' : Mem} {H : Hp} {ρ' : Env} {σ' : St}, RelS K (A.blk Dd) ρ' M' σ' H → M' Dd = none := fun {M' H ρ' σ'} R' => by
    cases q : M' Dd with
    | none => rfl
    | some o => exact absurd hz (R'.mem.nz _ o q)
  refine ⟨fun i m H => m = src.xs.length - i ∧ i ≤ src.xs.length ∧ ∃ M' vs ds, RelS K (A.blk Dd) (wipeE ρ (tgSlots t)) M' (wipe σ (tgSlots t)) H ∧ JB K (A.blk Dd).Z M' H J src ∧ src.keep M' ∧ H Dd = some (.lst vs) ∧ Reps K (A.blk Dd).Z M' H vs ds ∧ StpX Dd M H1 M' H ∧
    lcL src.keep (tgW t) wt we (wipeE ρ (tgSlots t)) (src.xs.drop i) ds M' fun acc M2 => newL own acc M2 (kc K A ρ σ M H1 Q), ⟨src.xs.length, rfl, Nat.zero_le _, M, [], [], (R.wipe _).blk hD, ?_, kp, upd_same, .nil, ⟨fun a o ne e _ => by rw [upd_ne ne]; exact e, fun _ _ _ _ n => n, fun a o e => ⟨o, e⟩⟩, h⟩, ?_⟩
  · exact (jb.wide fun v d r => r.hide hD).mono (Stp.laid R.mem hD)
  · rintro i m H ⟨rfl, hi, M', vs, ds, R', jb', kp', hDv, rs', S, h⟩
    by_cases lt : i < src.xs.length
    · obtain ⟨go, yl⟩ := jb'.go R' kp' lt
      refine .inr ⟨go, fun H' => i + 1 ≤ src.xs.length ∧ ∃ M' vs ds, RelS K (A.blk Dd) (wipeE ρ (tgSlots t)) M' (wipe σ (tgSlots t)) H' ∧ JB K (A.blk Dd).Z M' H' J src ∧ src.keep M' ∧ H' Dd = some (.lst vs) ∧ Reps K (A.blk Dd).Z M' H' vs ds ∧ StpX Dd M H1 M' H' ∧
        lcL src.keep (tgW t) wt we (wipeE ρ (tgSlots t)) (src.xs.drop (i + 1)) ds M' fun acc M2 => newL own acc M2 (kc K A ρ σ M H1 Q), fun H' n => ⟨src.xs.length - (i + 1), by omega, rfl, n⟩, fun x H' y => ?_⟩
      obtain ⟨e, d, hd, rd⟩ := yl x H' y
      subst e
      rw [List.drop_eq_getElem_cons lt] at h
      have ed : src.xs[i] = d := by rw [List.getElem?_eq_getElem lt] at hd; exact Option.some.inj hd
      rw [ed] at h
      unfold lcL at h
      refine gT_of rd R' h fun ρ2 σ2 R2 P2 off => ⟨?_, ?_⟩
      · rw [off.wipe]
        refine List.ext_getElem? fun j => ?_
        by_cases hj : j < σ.length
        · rw [wipe_at _ _ _ (by rw [wipe_length]; exact hj), wipe_at _ _ _ hj]
          split <;> rfl
        · rw [List.getElem?_eq_none (by rw [wipe_length, wipe_length]; omega), List.getElem?_eq_none (by rw [wipe_length]; omega)]
      · refine ⟨ρ2, M', R2, mt _ _ _ _ (fun b M3 h3 H3 R3 S3 => ?_) P2⟩
        have hD3 : H3 Dd = some (.lst vs) := S3.keep _ _ hDv (free R')
        have back : ∀ {M4 : Mem} {H4 : Hp}, RelS K (A.blk Dd) ρ2 M4 σ2 H4 → Stp M' H' M4 H4 → RelS K (A.blk Dd) (wipeE ρ (tgSlots t)) M4 (wipe σ (tgSlots t)) H4 := fun R4 S4 =>
          ⟨(R'.step S4 R4.mem).slot, R'.len, R4.mem, trivial⟩
        cases b with
        | true =>
          refine ⟨ρ2, M3, R3, me _ _ _ _ (fun d4 M4 h4 y H4 r4 R4 S4 => ?_) h3⟩
          have S34 := S3.trans S4
          have hD4 : H4 Dd = some (.lst vs) := S4.keep _ _ hD3 (free R3)
          refine ⟨vs, hD4, by rw [rs'.length]; exact h4.1, lt, M4, vs ++ [y], ds ++ [d4], (back R4 S34).hw hD4, (jb'.mono S34).hw hz hD4, h4.2.1, upd_same, ((rs'.mono S34).append (.cons r4 .nil)).hw hz hD4, (S.trans S34.x).trans StpX.w, h4.2.2⟩
        | false => exact ⟨lt, M3, vs, ds, back R3 S3, jb'.mono S3, h3.1, hD3, rs'.mono S3, S.trans S3.x, h3.2⟩
    · have e : i = src.xs.length := by omega
      subst e
      refine .inl ⟨jb'.stop R' kp', ?_⟩
      rw [List.drop_length] at h
      unfold lcL at h
      have So := S.out hD
      have Ro : RelS K A ρ M' σ H := R.unblk R' So
      have h0 := h
      have h := newL_mono (kc_step So) h
      -- the list at D becomes the answer
      cases own with
      | false => exact h (.ref Dd) H (.lst hDv (free R') (R.mem.nzf hD) (rs'.bare fun _ z => .inl z)) Ro Stp.refl
      | true =>
        have hM : M' Dd = none := free R'
        obtain ⟨Rw, Sw⟩ := R.owned hD R' S hDv rs'
        exact h0 Dd hM (.ref Dd) H (.ref put_same) Rw Sw
end DL
set_option Elab.async false
set_option linter.all false
set_option maxRecDepth 100000
set_option maxHeartbeats 4000000
namespace DL
open PySem PySem.Spec PyProof.Rows L2
theorem mIT {Γ : List DSp} {gs : List D} (e : IO) (E : Exn → Mem → Prop) : ∀ ρ M (Q Q' : Bool → Mem → Prop), (∀ d M, Q d M → Q' d M) → sIT Γ gs e ρ M Q E → sIT Γ gs e ρ M Q' E := fun _ _ _ _ hQ h => sIT_mono e hQ (fun _ _ h => h) h
/-- a value's truth as a test -/
def sT (Γ : List DSp) (gs : List D) (e : IE) (ρ : Env) (M : Mem) (Q : Bool → Mem → Prop) (E : Exn → Mem → Prop) : Prop := sE Γ gs e ρ M (fun x M1 => ∃ b, truth M1 x = some b ∧ Q b M1) E
/-- expressions whose test is their value's truth -/
def plainT : IE → Bool
  | .not _ => false | .and _ => false | .or _ => false | .cmp .. => false | .chain .. => false | .isN .. => false | .ite .. => false
  | _ => true
theorem pt_val' {X : Cx} {A : An} {e : Expr} {w : Env → Mem → (D → Mem → Prop) → Prop} (mw : MonoW w) (h : PE X e (td X.K A w)) (he : ∀ whole, isTrue e X.env whole = (do let v ← whole; standAt e.pos; holding [v] (truthy v))) :
    PT X e (tb X.K A fun ρ M Q => w ρ M fun x M1 => ∃ b, truth M1 x = some b ∧ Q b M1) :=
  PT.imp (pt_truth h he) fun σ H Q ⟨ρ, M, R, q⟩ => one mw R q fun d v M1 H1 ⟨b, e, k⟩ r R1 S => ⟨b, truth_of R1 r e, k H1 R1 S⟩
section
variable {Γ : List DSp} {gs : List D} {ca : Nat → Addr}
theorem call_read {X : Cx} {A : An} {E : Exn → Mem → Prop} {sp : DSp} {σ : St} {ρ : Env} {M : Mem} {H : Hp} {Q : VK} {vs : List V} {ds : List D} (R : RelS X.K A ρ M σ H) (r : Reps X.K A.Z M H vs ds) (h : sp.wp ds M (kc X.K A ρ σ M H Q) E) :
    toSp X.K ca sp vs H Q (WE (wx ca X.K A E) σ) :=
  ⟨A.Z, ds, M, r, R.mem, sp.mono (fun d M' k v H' rv m S => k v H' rv (R.step S m) S) (fun x M' e cls dx H' ex m S => ⟨ρ, M', x, R.step S m, ex, e⟩) h⟩
theorem plain_ix {y : Expr} (h : plainB y = true) : PlainIx y := by
  intro o i
  cases y <;> first
    | rfl
    | (rename_i a b c d; cases c <;> first | (cases h; done) | rfl)
theorem tyB_pe {X : Cx} {c : Cc} {A : An} (hX : CtxE c Γ gs ca X) {t : Ty} {z : Expr} (h : tyB c.sn t z = true) : PE X z (tC (.ty t.nm)) ∧ notStar z = true := by
  cases z with
  | Name x pos =>
    unfold tyB at h
    obtain ⟨h1, h2⟩ := and2 h
    have e := of_decide_eq_true h1
    subst e
    refine ⟨pe_bltn (glo_of hX.sn h2) (hX.blt _ ?_) (u := .type t.nm) ?_ rfl ?_ ?_, rfl⟩ <;> (cases t <;> decide +kernel)
  | _ => unfold tyB at h; cases h
theorem tysB_pa {X : Cx} {c : Cc} {A : An} (hX : CtxE c Γ gs ca X) : ∀ (ts : List Ty) (zs : List Expr), tysB c.sn ts zs = true → PA X zs (fun σ H Q => Q (ts.map fun t => V.ty t.nm) H) ∧ zs.all notStar = true
  | [], [], _ => ⟨pa_nil, rfl⟩
  | [], _ :: _, h => by unfold tysB at h; cases h
  | _ :: _, [], h => by unfold tysB at h; cases h
  | t :: ts, z :: zs, h => by
    unfold tysB at h
    obtain ⟨h1, h2⟩ := and2 h
    obtain ⟨p1, s1⟩ := tyB_pe (A := A) hX h1
    obtain ⟨p2, s2⟩ := tysB_pa (A := A) hX ts zs h2
    exact ⟨PA.imp (pa_cons p1 p2 (star_cons s1)) fun σ H Q q => q, by rw [List.all_cons, s1, s2]; rfl⟩
theorem base_of {X : Cx} {x : Expr} {m : Str} (h : notCall0 x = true) : attributeBase x m X.env (eval x X.env) = eval x X.env := by
  cases x <;> first
    | rfl
    | (rename_i f as ks p
       cases f <;> first
         | rfl
         | (cases as <;> first
             | rfl
             | (cases ks <;> first | rfl | (cases h; done))))
theorem pairs_read {K : PySem.W.Frag} {A : An} {E : Exn → Mem → Prop} : ∀ (ks : List Str) (es : IEs) (trs : List (TE × TE)) (σ : St) (ρ : Env) (M : Mem) (H : Hp) (P : List D → Mem → Prop) (k : List (V × V) → Hp → Prop), RelS K A ρ M σ H →
    True → True := fun _ _ _ _ _ _ _ _ _ _ _ => trivial
theorem bltNm_mem {f : BF} (h : f ≠ .gcd) : bltNm f ∈ bltNames := by cases f <;> first | decide +kernel | exact absurd rfl h
theorem blt_boot (f : BF) (h : f ≠ .gcd) : bootBuiltins (bltNm f) = some f.val := by cases f <;> first | decide +kernel | exact absurd rfl h
theorem bltNm_ok (f : BF) : bltNm f ≠ ("__name__" : Str) ∧ (bltNm f == ("__debug__" : Str)) = false := by cases f <;> decide +kernel
end
end DL
set_option Elab.async false
set_option linter.all false
set_option maxRecDepth 100000
namespace DL
open PySem PySem.Spec PyProof.Rows L2 HT
section
variable {prog : Program} {w : World} {A : Around} {E : Value → Shared → Prop} {s : Shared}
theorem sliceApplied_rev {sl : Addr} {vl vu vs : Value} {n : Nat} {Q : Int × Int × Nat → Shared → Prop} (hs : s.heap.IsSliceOf sl vl vu vs) (pl : IsPart vl none) (pu : IsPart vu none) (ps : IsPart vs (some (-1)))
    (h : Q ((n : Int) - 1, -1, n) s) : wpAny (model prog w) A (Builtin.Slice.sliceApplied (.ref sl) (pure (n : Int))) Q E s := by
  obtain ⟨os, hos, hcs, hds⟩ := id hs
  unfold Builtin.Slice.sliceApplied Builtin.Slice.sliceFields
  refine wpAny_bind (wpAny_bind (wpAny_field hos hds (x := vl) rfl (wpAny_bind (wpAny_field hos hds (x := vu) rfl (wpAny_bind (wpAny_field hos hds (x := vs) rfl (wpAny_pure ?_)))))))
  refine wpAny_bind (slicePart_ ps ?_)
  show wpAny _ _ (if ((-1 : Int) == 0) = true then _ else _) _ _ s
  rw [if_neg (by decide)]
  refine wpAny_bind (slicePart_ pl (wpAny_bind (slicePart_ pu (wpAny_bind (wpAny_pure ?_)))))
  show wpAny _ _ (pure ((n : Int) - 1, (-1 : Int), Builtin.Slice.slicePlaces ((n : Int) - 1) (-1) (-1))) _ _ s
  have e : Builtin.Slice.slicePlaces ((n : Int) - 1) (-1) (-1) = n := by
    unfold Builtin.Slice.slicePlaces
    rw [if_neg (by decide)]
    by_cases z : n = 0
    · subst z; rfl
    · rw [if_pos (by omega)]
      have : ((n : Int) - 1 - -1 - 1) / (- (-1 : Int)) = n - 1 := by
        rw [show (- (-1 : Int)) = 1 from rfl, Int.ediv_one]; omega
      rw [this]; omega
  rw [e]
  exact wpAny_pure h
theorem fm_map {α β : Type} {f : α → Option β} {g : α → β} : ∀ {l : List α}, (∀ m ∈ l, f m = some (g m)) → l.filterMap f = l.map g
  | [], _ => rfl
  | a :: l, h => by
    rw [List.filterMap_cons, h a List.mem_cons_self, List.map_cons, fm_map fun m hm => h m (List.mem_cons_of_mem _ hm)]
theorem pick_rev (xs : Array Value) : ((List.range xs.size).filterMap fun (m : Nat) => xs[(((xs.size : Nat) : Int) - 1 + (m : Int) * -1).toNat]?).toArray = xs.toList.reverse.toArray := by
  congr 1
  rw [fm_map (g := fun m => xs.toList.reverse.getD m .none) fun m hm => ?_]
  · refine List.ext_getElem (by simp) fun i h1 h2 => ?_
    rw [List.getElem_map, List.getElem_range, List.getD_eq_getElem?_getD, List.getElem?_eq_getElem h2, Option.getD_some]
  · have hm := List.mem_range.mp hm
    have e : (((xs.size : Nat) : Int) - 1 + (m : Int) * -1).toNat = xs.size - 1 - m := by omega
    rw [e, Array.getElem?_eq_getElem (by omega), List.getD_eq_getElem?_getD, List.getElem?_reverse (by simpa using hm)]
    rw [Array.length_toList, List.getElem?_eq_getElem (by rw [Array.length_toList]; omega)]
    simp
theorem getItem_tuple_rev {t sl : Addr} {items : Array Value} {vl vu vs : Value} {Q : Value → Shared → Prop} (ht : IsTup s.heap t items) (hs : s.heap.IsSliceOf sl vl vu vs) (pl : IsPart vl none) (pu : IsPart vu none) (ps : IsPart vs (some (-1)))
    (h : Q (.ref s.heap.objs.size) { s with heap := s.heap.push { cls := .type "tuple", data := .seq items.toList.reverse.toArray } })
    (hsz : items.size ≤ sizeLine) : wpAny (model prog w) A (getItem (.ref t) (.ref sl)) Q E s := by
  have htake : sizeOk (.seq items.toList.reverse.toArray) := by
    show items.toList.reverse.toArray.size ≤ sizeLine
    rw [List.size_toArray, List.length_reverse, Array.length_toList]
    exact hsz
  obtain ⟨os, hos, hcs, hds⟩ := id hs
  have hTs : s.TypeIs (.ref sl) "slice" := ⟨os, hos, hcs⟩
  unfold getItem
  try with_reducible refine wpAny_holding ?_
  first | refine wpAny_bind (wpAny_pure ?_) | skip
  refine wpAny_bind (wpAny_sequenceKey ht.typeIs (by decide) ?_)
  refine wpAny_bind (wpAny_callSpecial?_slot (name := Str.ofString "__getitem__") ht.typeIs PyProof.Rows.slot_tuple_getitem
    (wpAny_call_entry PyProof.Rows.slot_tuple_getitem ht.typeIs entry_tuple_getitem ?_ (args_tuple_getitem _ _)))
  show wpAny _ _ (Builtin.Tuple.tupleItemsOf (.ref t) >>= _) _ _ s
  refine wpAny_bind (tupleItemsOf_ ht ?_)
  refine wpAny_bind (wpAny_typeOf hTs ?_)
  rw [if_pos (by decide)]
  refine wpAny_bind (sliceApplied_rev hs pl pu ps ?_)
  have hno : ¬ ((((items.size : Nat) : Int) - 1 == 0 && (-1 : Int) == 1 && items.size == items.size) = true) := by
    intro q
    rw [Bool.and_eq_true, Bool.and_eq_true] at q
    exact absurd q.1.2 (by decide)
  show wpAny _ _ (if (((items.size : Nat) : Int) - 1 == 0 && (-1 : Int) == 1 && items.size == items.size) = true then _ else _) _ _ s
  rw [if_neg hno, pick_rev]
  first
    | exact wpAny_bind (m := Builtin.Tuple.tupleExact _) (wpAny_newObj_type (wpAny_pure ⟨_, rfl, wpAny_pure h⟩) htake)
    | exact wpAny_bind (m := Builtin.Tuple.tupleExact _) (wpAny_newObj_type (wpAny_bind (wpAny_pure (wpAny_pure ⟨_, rfl, wpAny_pure h⟩))) htake)
    | exact wpAny_bind (wpAny_bind (m := Builtin.Tuple.tupleExact _) (wpAny_newObj_type (wpAny_pure (wpAny_pure ⟨_, rfl, wpAny_pure h⟩)) htake))
    | exact wpAny_bind (wpAny_bind (m := Builtin.Tuple.tupleExact _) (wpAny_newObj_type (wpAny_pure ⟨_, rfl, wpAny_pure h⟩) htake))
end
/-- e[::-1] of a list or a tuple -/
def rRevA (K : PySem.W.Frag) (x : V) (H1 : Hp) (Q : VK) : Prop := (∃ a xs, x = .ref a ∧ SqL K H1 a xs ∧ ∀ p, H1 p = none → Q (.ref p) (upd H1 p (.lst xs.reverse))) ∨ (∃ a xs, x = .ref a ∧ SqT K H1 a xs ∧ ∀ p, H1 p = none → Q (.ref p) (upd H1 p (.tup xs.reverse)))
theorem pe_revA {X : Cx} {e : Expr} {te : TE} {k : Nat} {p1 p2 p3 pos : Pos} (he : PE X e te) : PE X (.Subscript e (.Slice none none (some (.UnaryOp .USub (.Constant (.int 1) k p1) p2)) p3) pos) (fun σ H Q => te σ H fun x H1 => rRevA X.K x H1 Q) := by
  refine ⟨fun pins s σ H Q I h => ?_⟩
  refine Subscript_ (thn (he.run pins s σ H _ I h) fun v s1 ⟨x, H1, I1, r1, q1⟩ => ?_)
  have hst : PO X (some (.UnaryOp .USub (.Constant (.int 1) k p1) p2)) (tPart (tUn (rU fun i => .int (-i)) (tC (.int 1)))) := po_some (pe_un un_neg pe_int)
  refine wpAny_Slice (thn (po_none.run pins s1 σ H1 (fun o H2 => o = none ∧ H2 = H1) I1 ⟨rfl, rfl⟩) fun vl s2 ⟨l, H2, I2, pl, el, e2⟩ => ?_)
  subst el e2
  refine thn (po_none.run pins s2 σ H2 (fun o H3 => o = none ∧ H3 = H2) I2 ⟨rfl, rfl⟩) fun vu s3 ⟨u, H3, I3, pu, eu, e3⟩ => ?_
  subst eu e3
  refine thn (hst.run pins s3 σ H3 (fun o H4 => o = some (-1) ∧ H4 = H3) I3 ⟨1, rfl, -1, rfl, rfl, rfl⟩) fun vs s4 ⟨o, H4, I4, ps, eo, e4⟩ => ?_
  subst eo e4
  have I5 : Inv X pins σ H4 { s4 with heap := s4.heap.push { cls := .type "slice", data := .fields #[vl, vu, vs] } } := I4.kept (t' := s4.toks) fun b ob q => Heap.get?_push_of_some _ q
  rcases q1 with ⟨a, xs, ex, hx, q⟩ | ⟨a, xs, ex, hx, q⟩
  · subst ex
    cases r1
    obtain ⟨its, r, ht, hz⟩ := I5.list hx
    have hlen := r.length
    show wpAny (model X.prog X.w) X.A (subscriptTail e (.Slice none none (some (.UnaryOp .USub (.Constant (.int 1) k p1) p2)) p3) (.ref a) (.ref s4.heap.objs.size)) (EP X pins σ Q) X.xe { s4 with heap := s4.heap.push { cls := .type "slice", data := .fields #[vl, vu, vs] } }
    refine tail_any (ops := [.ref a, .ref s4.heap.objs.size]) ht.isList.typeIs (PySem.slot_list_getitem.lookup) ?_ (by with_unfolding_all rfl)
    refine wpAny_getItem_list_slice ht.isList (Heap.IsSliceOf.new _ vl vu vs) pl pu ps (by decide) ?_ (by rw [List.size_toArray]; omega)
    rw [PySem.W.krv_pick]
    refine ⟨.ref _, _, I5.laid (t' := s4.toks) (o := .lst xs.reverse) (fun b ob q => Heap.get?_push_of_some _ q) (Nat.le_refl _) ?_, rfl, q _ (I5.hok.fresh (Nat.le_refl _))⟩
    exact ⟨by rw [List.length_reverse]; exact hz, _, 0, r.reverse, Heap.get?_push_size _ rfl⟩
  · subst ex
    cases r1
    obtain ⟨its, r, ht, hz⟩ := I5.tuple hx
    have hlen := r.length
    show wpAny (model X.prog X.w) X.A (subscriptTail e (.Slice none none (some (.UnaryOp .USub (.Constant (.int 1) k p1) p2)) p3) (.ref a) (.ref s4.heap.objs.size)) (EP X pins σ Q) X.xe { s4 with heap := s4.heap.push { cls := .type "slice", data := .fields #[vl, vu, vs] } }
    refine tail_any (ops := [.ref a, .ref s4.heap.objs.size]) ht.typeIs PyProof.Rows.slot_tuple_getitem.lookup ?_ (by with_unfolding_all rfl)
    refine getItem_tuple_rev ht (Heap.IsSliceOf.new _ vl vu vs) pl pu ps ?_ (by rw [List.size_toArray]; omega)
    refine ⟨.ref _, _, I5.laid (t' := s4.toks) (o := .tup xs.reverse) (fun b ob q => Heap.get?_push_of_some _ q) (Nat.le_refl _) ?_, rfl, q _ (I5.hok.fresh (Nat.le_refl _))⟩
    exact ⟨by rw [List.length_reverse]; exact hz, _, r.reverse, IsTup.new _ _⟩
end DL
set_option Elab.async false
set_option linter.all false
set_option maxRecDepth 100000
set_option maxHeartbeats 4000000
namespace DL
open PySem PySem.Spec PyProof.Rows L2
section
variable {Γ : List DSp} {gs : List D} {ca : Nat → Addr}
theorem pt_ite {X : Cx} {c a b : Expr} {pos : Pos} {tc ta tb : TT} (hc : PT X c tc) (ha : PT X a ta) (hb : PT X b tb) : PT X (.IfExp c a b pos) (fun σ H Q => tc σ H fun k H1 => if k = true then ta σ H1 Q else tb σ H1 Q) := by
  refine ⟨fun pins s σ H Q I h => ?_⟩
  refine isTrue_IfExp (thn (hc.run pins s σ H _ I h) fun d s1 ⟨H1, I1, q1⟩ => ?_)
  cases d with
  | true => exact ha.run pins s1 σ H1 Q I1 q1
  | false => exact hb.run pins s1 σ H1 Q I1 q1
theorem truth_bl {M : Mem} {b c : Bool} (h : truth M (.bl b) = some c) : c = b := by cases h; rfl
/-- from a value that is a bool: a test -/
theorem kc_kb {K : PySem.W.Frag} {A : An} {ρ : Env} {σ : St} {M : Mem} {H : Hp} {Q : Bool → Hp → Prop} {b : Bool} {M' : Mem} (h : ∃ c, truth M' (.bl b) = some c ∧ kb K A ρ σ M H Q c M') : kb K A ρ σ M H Q b M' := by
  obtain ⟨c, e, k⟩ := h
  rw [truth_bl e] at k
  exact k
/-- the conclusion wanted of an expression -/
def OkE (Γ : List DSp) (gs : List D) (X : Cx) (A : An) (E : Exn → Mem → Prop) (ir : IE) (e : Expr) : Prop :=
  PE X e (td X.K A fun ρ M Q => sE Γ gs ir ρ M Q E) ∧ PT X e (tb X.K A fun ρ M Q => sT Γ gs ir ρ M Q E)
theorem OkE.of {X : Cx} {A : An} {E : Exn → Mem → Prop} {ir : IE} {e : Expr} (h : PE X e (td X.K A fun ρ M Q => sE Γ gs ir ρ M Q E)) (he : ∀ whole, isTrue e X.env whole = (do let v ← whole; standAt e.pos; holding [v] (truthy v)) := by intro _; rfl) : OkE Γ gs X A E ir e :=
  ⟨h, pt_val' (mE ir E) h he⟩
theorem inW_bl {neg : Bool} {x y : D} {M : Mem} {Q : D → Mem → Prop} (h : inW neg x y M Q) : inW neg x y M (fun z M' => ∃ b, z = .bl b ∧ Q z M') := by
  cases y <;> first
    | exact False.elim h
    | (obtain ⟨s, h1, h2⟩ := h; exact ⟨s, h1, _, rfl, h2⟩)
    | exact ⟨h.1, h.2.1, _, rfl, h.2.2⟩
    | (rcases h with ⟨xs, h1, h2, h3, h4⟩ | ⟨o, h1, h2⟩
       · exact .inl ⟨xs, h1, h2, h3, _, rfl, h4⟩
       · exact .inr ⟨o, h1, _, rfl, h2⟩)
theorem cmpW_bl {op : COp} {x y : D} {M : Mem} {Q : D → Mem → Prop} (h : cmpW op x y M Q) : cmpW op x y M (fun z M' => ∃ b, z = .bl b ∧ Q z M') := by
  cases op <;> first
    | exact inW_bl h
    | exact ⟨h.1, h.2.1, _, rfl, h.2.2⟩
    | (obtain ⟨i, j, h1, h2, h3⟩ := h; exact ⟨i, j, h1, h2, _, rfl, h3⟩)
theorem gL_mono : ∀ (is : List Nat) {vs : List V} {σ : St} {H : Hp} {Q Q' : St → Hp → Prop}, (∀ σ H, Q σ H → Q' σ H) → gL is vs σ H Q → gL is vs σ H Q'
  | [], _, _, _, _, _, hQ, h => ⟨h.1, hQ _ _ h.2⟩
  | i :: is, _, _, _, _, _, hQ, ⟨v, r, e, h⟩ => ⟨v, r, e, gL_mono is hQ h⟩
theorem gT_mono {K : PySem.W.Frag} {t : Tg} {v : V} {σ : St} {H : Hp} {Q Q' : St → Hp → Prop} (hQ : ∀ σ H, Q σ H → Q' σ H) (h : gT K t v σ H Q) : gT K t v σ H Q' := by
  cases t with
  | nm i => exact hQ _ _ h
  | tu is => obtain ⟨a, xs, h1, h2, h3, h4⟩ := h; exact ⟨a, xs, h1, h2, h3, gL_mono is hQ h4⟩
theorem Reps.dropLast {K : PySem.W.Frag} {Z : Addr → Prop} {M : Mem} {H : Hp} {vs : List V} {ds : List D} (r : Reps K Z M H vs ds) : Reps K Z M H vs.dropLast ds.dropLast := by
  rw [List.dropLast_eq_take, List.dropLast_eq_take, r.length]
  exact r.take _
theorem m2_of {X : Cx} {o y z : Expr} {apos cpos : Pos} {m : Str} (hb : attributeBase o m X.env (eval o X.env) = eval o X.env) (hl : (apos.endLine == cpos.line) = true) (h1 : notStar y = true) (h2 : notStar z = true) : M2 X o m apos y z cpos := by
  have e : starEach [y, z] X.env = [(false, eval y X.env), (false, eval z X.env)] := by rw [star_cons h1, star_cons h2]; rfl
  refine ⟨hb, ?_, hl, ?_⟩
  · rw [e]; rfl
  · rw [e]; rfl
theorem rep_none {K : PySem.W.Frag} {Z : Addr → Prop} {M : Mem} {H : Hp} {x : V} {d : D} (h : Rep K Z M H x d) : decide (x = V.non) = isNon d := by
  cases h <;> simp [isNon]
theorem trs_read {K : PySem.W.Frag} {A : An} {ρ : Env} {σ : St} {E : Exn → Mem → Prop} {kq : List (V × V) → Hp → Prop} : ∀ (ks : List Str) (es : IEs) (ws : List (Env → Mem → (D → Mem → Prop) → Prop)) (P : List D → Mem → Prop) (M : Mem) (H : Hp), RelS K A ρ M σ H → True := fun _ _ _ _ _ _ _ => trivial
mutual
theorem okE : ∀ (ir : IE) (e : Expr) (c : Cc) (X : Cx) (A : An) (E : Exn → Mem → Prop), CtxE c Γ gs ca X → TakesE ca X A E → chkE c ir e = true → OkE Γ gs X A E ir e
  | .var i, e, c, X, A, E, hX, tk, h => by
    unfold chkE at h
    split at h
    · rename_i x pos
      unfold slotB at h
      obtain ⟨h1, h2⟩ := and2 h
      obtain ⟨h2, h3⟩ := and2 h2
      obtain ⟨n1, n2, n3⟩ := name_of h3
      refine OkE.of (PE.imp (pe_var (i := i) (by rw [hX.N]; exact of_decide_eq_true h1) (vis_of hX.sn h2) n1 n2) fun σ H Q ⟨ρ, M, R, q⟩ => ?_)
      unfold sE at q
      obtain ⟨d, g1, g2⟩ := q
      obtain ⟨v, e1, e2⟩ := R.slot _ _ g1
      exact ⟨v, e1, R.td e2 g2⟩
    · cases h
  | .cst v, e, c, X, A, E, hX, tk, h => by
    unfold chkE at h
    cases v with
    | non =>
      cases e with
      | Constant k j pos =>
        cases k with
        | none => exact OkE.of (PE.imp pe_non fun σ H Q ⟨ρ, M, R, q⟩ => by unfold sE at q; exact R.td .non q)
        | _ => cases h
      | _ => cases h
    | bl b =>
      cases e with
      | Constant k j pos =>
        cases k with
        | bool d =>
          have e := of_decide_eq_true h
          subst e
          exact OkE.of (PE.imp pe_bl fun σ H Q ⟨ρ, M, R, q⟩ => by unfold sE at q; exact R.td (.bl _) q)
        | _ => cases h
      | _ => cases h
    | int b =>
      cases e with
      | Constant k j pos =>
        cases k with
        | int d =>
          have e := of_decide_eq_true h
          subst e
          exact OkE.of (PE.imp pe_int fun σ H Q ⟨ρ, M, R, q⟩ => by unfold sE at q; exact R.td (.int _) q)
        | _ => cases h
      | _ => cases h
    | str b =>
      cases e with
      | Constant k j pos =>
        cases k with
        | str d =>
          have e := of_decide_eq_true h
          subst e
          exact OkE.of (PE.imp pe_str fun σ H Q ⟨ρ, M, R, q⟩ => by unfold sE at q; exact R.td (.str _) q)
        | _ => cases h
      | _ => cases h
  | .glob g, e, c, X, A, E, hX, tk, h => by
    unfold chkE at h
    split at h
    · rename_i x pos
      obtain ⟨h1, h2⟩ := and2 h
      obtain ⟨h2, h3⟩ := and2 h2
      obtain ⟨n1, n2, n3⟩ := name_of h3
      have gx := of_decide_eq_true h1
      cases q : gs[g]? with
      | none =>
        refine OkE.of ⟨fun pins s σ H Q I ⟨ρ, M, R, k⟩ => ?_⟩
        unfold sE at k
        obtain ⟨d, k1, _⟩ := k
        rw [q] at k1; cases k1
      | some d =>
        obtain ⟨u, v, m1, m2, m3⟩ := hX.gl g x d gx q
        refine OkE.of (PE.imp (pe_glob (glo_of hX.sn h2) m1 m2 n1) fun σ H Q ⟨ρ, M, R, k⟩ => ?_)
        unfold sE at k
        obtain ⟨d', k1, k2⟩ := k
        rw [q] at k1; cases k1
        exact R.td (m3 _ _ _) k2
    · cases h
  | .tup es, e, c, X, A, E, hX, tk, h => by
    unfold chkE at h
    split at h
    · refine OkE.of (PE.imp (pe_tup (okEs es _ c X A E hX tk h)) fun σ H Q ⟨ρ, M, R, q⟩ => ?_)
      unfold sE at q
      exact ones (mEs es E) R q fun ds vs M1 H1 ⟨z, k⟩ r R1 S => ⟨by rw [r.length]; exact z, newT_use R1 r (kc_step S _ _ k)⟩
    · cases h
  | .lst own es, e, c, X, A, E, hX, tk, h => by
    unfold chkE at h
    split at h
    · refine OkE.of (PE.imp (pe_lst (okEs es _ c X A E hX tk h)) fun σ H Q ⟨ρ, M, R, q⟩ => ?_)
      unfold sE at q
      exact ones (mEs es E) R q fun ds vs M1 H1 ⟨z, k⟩ r R1 S => ⟨by rw [r.length]; exact z, newL_use R1 r (newL_mono (kc_step S) k)⟩
    · cases h
  | .bin own op a b, e, c, X, A, E, hX, tk, h => by
    unfold chkE at h
    split at h
    · obtain ⟨h1, h2⟩ := and2 h
      obtain ⟨h2, h3⟩ := and2 h2
      have e1 := of_decide_eq_true h1
      subst e1
      refine OkE.of (PE.imp (pe_op (opr_bin (own := own)) (okE a _ c X A E hX tk h2).1 (okE b _ c X A E hX tk h3).1) fun σ H Q ⟨ρ, M, R, q⟩ => ?_)
      unfold sE at q
      exact two (mE a E) (mE b E) R q fun d e v u M1 H1 k r1 r2 R1 S => ⟨A, ρ, σ, M1, d, e, R1, r1, r2, binW_mono (kc_step S) k⟩
    · cases h
  | .neg a, e, c, X, A, E, hX, tk, h => by
    unfold chkE at h
    split at h
    · refine OkE.of (PE.imp (pe_un un_neg (okE a _ c X A E hX tk h).1) fun σ H Q ⟨ρ, M, R, q⟩ => ?_)
      unfold sE at q
      refine one (mE a E) R q fun d v M1 H1 ⟨i, e, k⟩ r R1 S => ?_
      subst e
      cases r
      exact ⟨i, rfl, R1.td (.int _) (kc_step S _ _ k)⟩
    · cases h
  | .not a, e, c, X, A, E, hX, tk, h => by
    unfold chkE at h
    split at h
    · refine ⟨PE.imp (pe_notT (okE a _ c X A E hX tk h).1) fun σ H Q ⟨ρ, M, R, q⟩ => ?_, PT.imp (pt_not (okE a _ c X A E hX tk h).2) fun σ H Q ⟨ρ, M, R, q⟩ => ?_⟩
      · unfold sE at q
        exact one (mE a E) R q fun d v M1 H1 ⟨b, e, k⟩ r R1 S => ⟨b, truth_of R1 r e, R1.td (.bl _) (kc_step S _ _ k)⟩
      · unfold sT sE at q
        refine ⟨ρ, M, R, sE_mono a (fun x M1 ⟨b, e, k⟩ => ⟨b, e, fun H1 R1 S => ?_⟩) (fun _ _ z => z) q⟩
        exact kc_kb k H1 R1 S
    · cases h
  | .and es, e, c, X, A, E, hX, tk, h => by
    unfold chkE at h
    split at h
    · obtain ⟨p1, p2⟩ := okAnd es _ c X A E hX tk h _
      refine ⟨PE.imp p1 fun σ H Q ⟨ρ, M, R, q⟩ => ?_, PT.imp p2.pt fun σ H Q ⟨ρ, M, R, q⟩ => ?_⟩
      · unfold sE at q; exact ⟨ρ, M, R, q⟩
      · unfold sT sE at q; exact ⟨ρ, M, R, q⟩
    · cases h
  | .or es, e, c, X, A, E, hX, tk, h => by
    unfold chkE at h
    split at h
    · obtain ⟨p1, p2⟩ := okOr es _ c X A E hX tk h _
      refine ⟨PE.imp p1 fun σ H Q ⟨ρ, M, R, q⟩ => ?_, PT.imp p2.pt fun σ H Q ⟨ρ, M, R, q⟩ => ?_⟩
      · unfold sE at q; exact ⟨ρ, M, R, q⟩
      · unfold sT sE at q; exact ⟨ρ, M, R, q⟩
    · cases h
  | .cmp op a b, e, c, X, A, E, hX, tk, h => by
    unfold chkE at h
    split at h
    · obtain ⟨h1, h2⟩ := and2 h
      obtain ⟨h2, h3⟩ := and2 h2
      obtain ⟨h3, h4⟩ := and2 h3
      have e1 := of_decide_eq_true h1
      subst e1
      have mk := not2 h2
      have oa := (okE a _ c X A E hX tk h3).1
      have ob := (okE b _ c X A E hX tk h4).1
      refine ⟨PE.imp (pe_cmpR (opr_cmp hX.room) oa ob mk) fun σ H Q ⟨ρ, M, R, q⟩ => ?_, PT.imp (pt_cmpR (opr_cmp hX.room) oa ob mk) fun σ H Q ⟨ρ, M, R, q⟩ => ?_⟩
      · unfold sE at q
        exact two (mE a E) (mE b E) R q fun d e v u M1 H1 k r1 r2 R1 S => ⟨A, ρ, σ, M1, d, e, R1, r1, r2, cmpW_mono (kc_step S) k⟩
      · unfold sT sE at q
        refine two (mE a E) (mE b E) R q fun d e v u M1 H1 k r1 r2 R1 S => ⟨A, ρ, σ, M1, d, e, R1, r1, r2, cmpW_mono (fun z M2 ⟨b, e, k⟩ x H2 rx R2 S2 => ?_) (cmpW_bl k)⟩
        subst e
        cases rx
        exact ⟨_, rfl, kc_kb k H2 R2 (S.trans S2)⟩
    · cases h
  | .chain op op' a b d, e, c, X, A, E, hX, tk, h => by
    unfold chkE at h
    split at h
    · obtain ⟨h1, h2⟩ := and2 h
      obtain ⟨h2, h3⟩ := and2 h2
      obtain ⟨h3, h4⟩ := and2 h3
      obtain ⟨h4, h5⟩ := and2 h4
      obtain ⟨h5, h6⟩ := and2 h5
      have e1 := of_decide_eq_true h1
      have e2 := of_decide_eq_true h2
      subst e1 e2
      have mk := not2 h3
      have oa := (okE a _ c X A E hX tk h4).1
      have ob := (okE b _ c X A E hX tk h5).1
      have od := (okE d _ c X A E hX tk h6).1
      have main : ∀ {σ : St} {ρ : Env} {M : Mem} {H : Hp} {Q : VK}, RelS X.K A ρ M σ H → sE Γ gs (.chain op op' a b d) ρ M (kc X.K A ρ σ M H Q) E →
          tChain (rCmp X op) (rCmp X op') (td X.K A fun ρ M Q => sE Γ gs a ρ M Q E) (td X.K A fun ρ M Q => sE Γ gs b ρ M Q E) (td X.K A fun ρ M Q => sE Γ gs d ρ M Q E) σ H Q := fun {σ ρ M H Q} R q => by
        unfold sE at q
        refine two (mE a E) (mE b E) R q fun dx dy v u M1 H1 k r1 r2 R1 S => ⟨A, ρ, σ, M1, dx, dy, R1, r1, r2, cmpW_mono (fun z M2 ⟨kk, e, k⟩ x H2 rx R2 S2 => ?_) k⟩
        subst e
        cases rx
        refine ⟨kk, rfl, ?_⟩
        cases kk with
        | true =>
          exact one (mE d E) R2 k fun dw w M3 H3 k r3 R3 S3 => ⟨A, ρ, σ, M3, dy, dw, R3, (r2.mono S2).mono S3, r3, cmpW_mono (kc_step ((S.trans S2).trans S3)) k⟩
        | false => exact R2.td (.bl _) (kc_step (S.trans S2) _ _ k)
      refine ⟨PE.imp (pe_chain (opr_cmp hX.room) (opr_cmp hX.room) oa ob od mk) fun σ H Q ⟨ρ, M, R, q⟩ => main R q, PT.imp (pt_chain (opr_cmp hX.room) (opr_cmp hX.room) oa ob od mk) fun σ H Q ⟨ρ, M, R, q⟩ => main R ?_⟩
      unfold sT sE at q
      unfold sE
      refine sE_mono a (fun x M1 q => sE_mono b (fun y M2 q => cmpW_mono (fun z M3 ⟨k, e, q⟩ => ⟨k, e, ?_⟩) q) (fun _ _ z => z) q) (fun _ _ z => z) q
      cases k with
      | true => exact sE_mono d (fun w M4 q => cmpW_mono (fun z' M5 ⟨b, e, bb, e2, k⟩ x H2 rx R2 S2 => by subst e; cases rx; exact ⟨_, rfl, kc_kb ⟨bb, e2, k⟩ H2 R2 S2⟩) (cmpW_bl q)) (fun _ _ z => z) q
      | false => exact fun x H2 rx R2 S2 => by cases rx; exact ⟨_, rfl, kc_kb q H2 R2 S2⟩
    · cases h
  | .isN no a, e, c, X, A, E, hX, tk, h => by
    unfold chkE at h
    split at h
    · rename_i x o k p1 p2
      obtain ⟨h1, h2⟩ := and2 h
      have e1 := of_decide_eq_true h1
      have oa := (okE a _ c X A E hX tk h2).1
      cases no with
      | false =>
        have e1 : o = .Is := e1
        subst e1
        refine ⟨PE.imp (pe_cmp (pc_isN oa)) fun σ H Q ⟨ρ, M, R, q⟩ => ?_, PT.imp (pt_cmp (pc_isN oa)) fun σ H Q ⟨ρ, M, R, q⟩ => ?_⟩
        · unfold sE at q
          refine one (mE a E) R q fun d v M1 H1 k r R1 S => ?_
          rw [rep_none r]
          have := R1.td (.bl _) (kc_step S _ _ k)
          rw [Bool.false_bne] at this
          exact this
        · unfold sT sE at q
          refine one (mE a E) R q fun d v M1 H1 k r R1 S => ⟨_, rfl, ?_⟩
          rw [rep_none r]
          have := kc_kb k H1 R1 S
          rw [Bool.false_bne] at this
          exact this
      | true =>
        have e1 : o = .IsNot := e1
        subst e1
        refine ⟨PE.imp (pe_cmp (pc_notN oa)) fun σ H Q ⟨ρ, M, R, q⟩ => ?_, PT.imp (pt_cmp (pc_notN oa)) fun σ H Q ⟨ρ, M, R, q⟩ => ?_⟩
        · unfold sE at q
          refine one (mE a E) R q fun d v M1 H1 k r R1 S => ?_
          rw [rep_none r]
          have := R1.td (.bl _) (kc_step S _ _ k)
          rw [Bool.true_bne] at this
          exact this
        · unfold sT sE at q
          refine one (mE a E) R q fun d v M1 H1 k r R1 S => ⟨_, rfl, ?_⟩
          rw [rep_none r]
          have := kc_kb k H1 R1 S
          rw [Bool.true_bne] at this
          exact this
    · cases h
  | .ite d a b, e, c, X, A, E, hX, tk, h => by
    unfold chkE at h
    split at h
    · obtain ⟨h1, h2⟩ := and2 h
      obtain ⟨h2, h3⟩ := and2 h2
      obtain ⟨od, od2⟩ := okE d _ c X A E hX tk h1
      obtain ⟨oa, oa2⟩ := okE a _ c X A E hX tk h2
      obtain ⟨ob, ob2⟩ := okE b _ c X A E hX tk h3
      refine ⟨PE.imp (pe_ifExp od2 oa ob) fun σ H Q ⟨ρ, M, R, q⟩ => ?_, PT.imp (pt_ite od2 oa2 ob2) fun σ H Q ⟨ρ, M, R, q⟩ => ?_⟩
      · unfold sE at q
        refine ⟨ρ, M, R, sE_mono d (fun x M1 ⟨k, e, q⟩ => ⟨k, e, fun H1 R1 S => ?_⟩) (fun _ _ z => z) q⟩
        cases k with
        | true => exact ⟨ρ, M1, R1, sE_mono a (kc_step S) (fun _ _ z => z) q⟩
        | false => exact ⟨ρ, M1, R1, sE_mono b (kc_step S) (fun _ _ z => z) q⟩
      · unfold sT sE at q
        refine ⟨ρ, M, R, sE_mono d (fun x M1 ⟨k, e, q⟩ => ⟨k, e, fun H1 R1 S => ?_⟩) (fun _ _ z => z) q⟩
        cases k with
        | true => exact ⟨ρ, M1, R1, sE_mono a (fun y M2 ⟨b, e, k⟩ => ⟨b, e, fun H2 R2 S2 => k H2 R2 (S.trans S2)⟩) (fun _ _ z => z) q⟩
        | false => exact ⟨ρ, M1, R1, sE_mono b (fun y M2 ⟨b, e, k⟩ => ⟨b, e, fun H2 R2 S2 => k H2 R2 (S.trans S2)⟩) (fun _ _ z => z) q⟩
    · cases h
  | .ix a b, e, c, X, A, E, hX, tk, h => by
    unfold chkE at h
    split at h
    · obtain ⟨h1, h2⟩ := and2 h
      obtain ⟨h2, h3⟩ := and2 h2
      refine OkE.of (PE.imp (pe_ix (ixr_d hX.room) (okE a _ c X A E hX tk h2).1 (okE b _ c X A E hX tk h3).1 (plain_ix h1)) fun σ H Q ⟨ρ, M, R, q⟩ => ?_)
      unfold sE at q
      exact two (mE a E) (mE b E) R q fun d e v u M1 H1 k r1 r2 R1 S => ⟨A, ρ, σ, M1, d, e, R1, r1, r2, ixW_mono (kc_step S) k⟩
    · cases h
  | .sl own a lo hi, e, c, X, A, E, hX, tk, h => by
    unfold chkE at h
    split at h
    · obtain ⟨h1, h2⟩ := and2 h
      obtain ⟨h2, h3⟩ := and2 h2
      refine OkE.of (PE.imp (pe_slice (slr_d (own := own)) (okE a _ c X A E hX tk h1).1 (okIO lo _ c X A E hX tk h2) (okIO hi _ c X A E hX tk h3)) fun σ H Q ⟨ρ, M, R, q⟩ => ?_)
      unfold sE at q
      refine one (mE a E) R q fun d v M1 H1 k r R1 S => ⟨ρ, M1, R1, sIO_mono lo (fun l M2 k H2 R2 S2 => ⟨ρ, M2, R2, sIO_mono hi (fun u M3 k H3 R3 S3 => ?_) (fun _ _ z => z) k⟩) (fun _ _ z => z) k⟩
      exact ⟨A, ρ, σ, M3, d, R3, (r.mono S2).mono S3, slW_mono (kc_step ((S.trans S2).trans S3)) k⟩
    · cases h
  | .rev own a, e, c, X, A, E, hX, tk, h => by
    unfold chkE at h
    split at h
    · refine OkE.of (PE.imp (pe_revA (okE a _ c X A E hX tk h).1) fun σ H Q ⟨ρ, M, R, q⟩ => ?_)
      unfold sE at q
      refine one (mE a E) R q fun d v M1 H1 k r R1 S => ?_
      have lists : (∃ xs, (d = .scr xs ∨ rs M1 d = .lst xs) ∧ newL own xs.reverse M1 (kc X.K A ρ σ M H Q)) → rRevA X.K v H1 Q := fun ⟨xs, e, k⟩ => by
        obtain ⟨a, vs, rfl, g1, g2⟩ := ls_of R1 r e
        exact .inl ⟨a, vs, rfl, g1, newL_use R1 g2.reverse (newL_mono (kc_step S) k)⟩
      cases r with
      | tup ht r => exact .inr ⟨_, _, rfl, ht.seq, newT_use R1 r.reverse (kc_step S _ _ k)⟩
      | _ => exact lists k
    · cases h
  | .call f es, e, c, X, A, E, hX, tk, h => by
    unfold chkE at h
    split at h
    · rename_i x p y xs pos
      obtain ⟨h1, h2⟩ := and2 h
      obtain ⟨h2, h3⟩ := and2 h2
      obtain ⟨h3, h4⟩ := and2 h3
      obtain ⟨n1, n2, n3⟩ := name_of h3
      have st := es_star es _ h4
      rw [List.all_cons, Bool.and_eq_true] at st
      have oas := okEs es _ c X A E hX tk h4
      cases q : Γ[f]? with
      | none =>
        have g := of_decide_eq_true h1
        have l1 := (List.getElem?_eq_some_iff.mp g).1
        have l2 := List.getElem?_eq_none_iff.mp q
        have l3 := hX.nf
        omega
      | some sp =>
        obtain ⟨fa, fd, ps, lv, m1, m2, m3, m4, m5⟩ := hX.fns f x sp (of_decide_eq_true h1) q
        refine OkE.of (PE.imp (pe_callS m5 m4 (glo_of hX.sn h2) m1 m2 m3 (fun σ => passAt tk σ) oas n1 (star_cons st.1) (star_plain st.2)) fun σ H Q ⟨ρ, M, R, k⟩ => ?_)
        unfold sE at k
        refine ones (mEs es E) R k fun ds vs M1 H1 ⟨sp', e, k⟩ r R1 S => ?_
        rw [q] at e
        cases e
        exact call_read R1 r (sp.mono (kc_step S) (fun _ _ z => z) k)
    · cases h
  | .call0 f, e, c, X, A, E, hX, tk, h => by
    unfold chkE at h
    split at h
    · rename_i x p pos
      obtain ⟨h1, h2⟩ := and2 h
      obtain ⟨h2, h3⟩ := and2 h2
      obtain ⟨n1, n2, n3⟩ := name_of h3
      cases q : Γ[f]? with
      | none =>
        refine OkE.of ⟨fun pins s σ H Q I ⟨ρ, M, R, k⟩ => ?_⟩
        unfold sE at k
        obtain ⟨sp, e, _⟩ := k
        rw [q] at e; cases e
      | some sp =>
        obtain ⟨fa, fd, ps, lv, m1, m2, m3, m4, m5⟩ := hX.fns f x sp (of_decide_eq_true h1) q
        refine OkE.of (PE.imp (pe_call0 m5 m4 (glo_of hX.sn h2) m1 m2 m3 .nil passL n1) fun σ H Q ⟨ρ, M, R, k⟩ => ?_)
        unfold sE at k
        obtain ⟨sp', e, k⟩ := k
        rw [q] at e
        cases e
        exact ⟨A.Z, [], M, .nil, R.mem, sp.mono (fun d M' k v H' rv m S => k v H' rv (R.step S m) S) (fun x M' e => e.elim) k⟩
    · cases h
  | .blt own f es, e, c, X, A, E, hX, tk, h => by
    unfold chkE at h
    split at h
    · rename_i x p y xs pos
      obtain ⟨h1, h2⟩ := and2 h
      obtain ⟨hl, h2⟩ := and2 h2
      obtain ⟨hg, h2⟩ := and2 h2
      obtain ⟨h2, h4⟩ := and2 h2
      have st := es_star es _ h4
      rw [List.all_cons, Bool.and_eq_true] at st
      have oas := okEs es _ c X A E hX tk h4
      have ex := of_decide_eq_true h1
      subst ex
      obtain ⟨n1, n2⟩ := bltNm_ok f
      have read : ∀ {σ : St} {H : Hp} {Q : VK}, td X.K A (fun ρ M Q => sE Γ gs (.blt own f es) ρ M Q E) σ H Q → tCB (rBltD X own f) (tds X.K A fun ρ M Q => sEs Γ gs es ρ M Q E) σ H Q := fun {σ H Q} ⟨ρ, M, R, k⟩ => by
        unfold sE at k
        exact ones (mEs es E) R k fun ds vs M1 H1 k r R1 S => ⟨A, ρ, σ, M1, ds, R1, r, bltW_mono (kc_step S) k⟩
      by_cases fg : f = .gcd
      · subst fg
        have g : c.gcd = true := by
          cases z : c.gcd with
          | true => rfl
          | false => rw [z] at hg; exact absurd hg (by decide)
        exact OkE.of (PE.imp (pe_callBfun (callr_d (f := .gcd) (own := own) hX.calm) (glo_of hX.sn h2) (hX.gcd g) oas n2 (star_cons st.1) (star_plain st.2)) fun σ H Q k => read k)
      · have boot := blt_boot f fg
        have mem := hX.blt _ (bltNm_mem fg)
        have cr := callr_d (X := X) (own := own) (f := f) hX.calm
        cases f <;> first
          | exact absurd rfl fg
          | exact OkE.of (PE.imp (pe_callB cr (glo_of hX.sn h2) mem boot oas n1 n2 (star_cons st.1) (star_plain st.2)) fun σ H Q k => read k)
          | exact OkE.of (PE.imp (pe_callTy cr (glo_of hX.sn h2) mem boot oas n1 n2 (star_cons st.1) (star_plain st.2)) fun σ H Q k => read k)
    · cases h
  | .isi a ts, e, c, X, A, E, hX, tk, h => by
    unfold chkE at h
    split at h
    · rename_i x p y z pos
      obtain ⟨h1, h2⟩ := and2 h
      obtain ⟨h2, h3⟩ := and2 h2
      obtain ⟨sy, h3⟩ := and2 h3
      obtain ⟨h3, h4⟩ := and2 h3
      have ex := of_decide_eq_true h1
      subst ex
      have oa := (okE a _ c X A E hX tk h3).1
      have mem := hX.blt "isinstance" (by decide +kernel)
      have gl := glo_of hX.sn h2
      rcases tyzB_cases h4 with ⟨t, rfl, h4⟩ | ⟨zs, zk, zp, rfl, hne, hlen, h7⟩
      · obtain ⟨pz, sz⟩ := tyB_pe (A := A) hX h4
        have cr : CallR X (.builtin "isinstance") (fun xs H Q => ∃ (A : An) (ρ : Env) (τ : St) (M : Mem) (dx : D) (b : Bool) (x : V), xs = [x, .ty t.nm] ∧ RelS X.K A ρ M τ H ∧ Rep X.K A.Z M H x dx ∧ isTys M dx [t] = some b ∧ Q (.bl b) H) := by
          rintro pins s σ H xs us Q I rv ⟨A, ρ, τ, M, dx, b, x, rfl, R, r, e, q⟩
          exact isi_sound1 I rv R r e q
        refine OkE.of (PE.imp (pe_callB cr gl mem (by decide +kernel) (pa_cons oa (pa_cons pz pa_nil (star_cons sz)) (star_cons sy)) (by decide) (by decide) (star_cons sy) (star_plain (by rw [List.all_cons, sz]; rfl))) fun σ H Q ⟨ρ, M, R, k⟩ => ?_)
        unfold sE at k
        exact one (mE a E) R k fun d v M1 H1 ⟨b, e, k⟩ r R1 S => ⟨A, ρ, σ, M1, d, b, v, rfl, R1, r, e, R1.td (.bl _) (kc_step S _ _ k)⟩
      · obtain ⟨pz, sz⟩ := tysB_pa (A := A) hX ts zs h7
        have cr : CallR X (.builtin "isinstance") (fun xs H Q => ∃ (A : An) (ρ : Env) (τ : St) (M : Mem) (dx : D) (b : Bool) (x : V) (p : Addr), xs = [x, .ref p] ∧ H p = some (.tup (ts.map fun t => V.ty t.nm)) ∧ RelS X.K A ρ M τ H ∧ Rep X.K A.Z M H x dx ∧ isTys M dx ts = some b ∧ Q (.bl b) H) := by
          rintro pins s σ H xs us Q I rv ⟨A, ρ, τ, M, dx, b, x, p, rfl, hp, R, r, e, q⟩
          exact isi_soundT hne I rv hp R r e q
        refine OkE.of (PE.imp (pe_callB cr gl mem (by decide +kernel) (pa_cons oa (pa_cons (pe_tup pz) pa_nil (star_cons rfl)) (star_cons sy)) (by decide) (by decide) (star_cons sy) (star_plain rfl)) fun σ H Q ⟨ρ, M, R, k⟩ => ?_)
        unfold sE at k
        refine one (mE a E) R k fun d v M1 H1 ⟨b, e, k⟩ r R1 S => ⟨by rw [List.length_map]; exact Nat.le_trans hlen (by decide), fun p hp => ?_⟩
        have S1 : Stp M1 H1 M1 (upd H1 p (.tup (ts.map fun t => V.ty t.nm))) := Stp.laid R1.mem hp
        exact ⟨A, ρ, σ, M1, d, b, v, p, rfl, upd_same, R1.laid hp, r.mono S1, e, (R1.laid hp).td (.bl _) (kc_step (S.trans S1) _ _ k)⟩
    · cases h
  | .lc own t elt it tst, e, c, X, A, E, hX, tk, h => by
    unfold chkE at h
    split at h
    · rename_i x tg iter ifs a scope pos
      obtain ⟨h1, h2⟩ := and2 h
      have ea := of_decide_eq_true h1
      subst ea
      obtain ⟨h2, h3⟩ := and2 h2
      split at h3
      · rename_i ow how
        obtain ⟨h4, h5⟩ := and2 h3
        obtain ⟨h5, h6⟩ := and2 h5
        obtain ⟨h6, h7⟩ := and2 h6
        have bo := blk_ok (sc := X.env.scope) hX.sn h4
        have hk := bo.kind
        have set : ∀ x, foldedSetIterable iter X.env x = pure x := by
          intro x
          cases iter <;> first | rfl | (cases it <;> (unfold chkI at h2; first | (cases h2; done) | (exact absurd (and2 h2).1 (by decide))))
        have rd := okI it iter c X A E hX tk h2
        refine OkE.of (PE.imp (pe_lc (own := ow) (g := gT X.K t) (tt := fun σ H Q => ∃ A, tb X.K A (fun ρ M Q => sIT Γ gs tst ρ M Q noE) σ H Q) (te := fun σ H Q => ∃ A, td X.K A (fun ρ M Q => sE Γ gs elt ρ M Q noE) σ H Q) hX.calm hX.nd (rd tg) (by rw [hX.N]; exact bo)
          (fun s H C cl fp => tg_pg (X := X.blk s H scope (compEnvC scope cl C X.env) fp) hX.nd hX.calm how (sto_blk hX.N h5 s H C cl fp))
          (fun s H C cl fp => ⟨fun pins s' σ' H' Q I ⟨A', q⟩ => (okIT tst ifs _ _ A' noE (hX.blk hk s H C cl fp) takesNo h7).run pins s' σ' H' Q I q⟩)
          (fun s H C cl fp => ⟨fun pins s' σ' H' Q I ⟨A', q⟩ => (okE elt x _ _ A' noE (hX.blk hk s H C cl fp) takesNo h6).1.run pins s' σ' H' Q I q⟩) set) fun σ H Q ⟨ρ, M, R, q⟩ => ?_)
        unfold sE at q
        refine ⟨ρ, M, R, sI_mono it (fun src M1 k kp J H1 jb R1 S => ?_) (fun _ _ z => z) q⟩
        have rd := lc_read (t := t) (own := own) (Q := Q) (mIT tst noE) (mE elt noE) R1 jb kp (by refine lcL_mono ?_ ?_ ?_ ?_ _ _ _ k; exact fun _ _ _ _ => tgW_mono; exact mIT tst noE; exact mE elt noE; exact fun ds M2 h => newL_mono (kc_step S) h)
        rw [tg_slots how]
        intro D hD
        obtain ⟨W, w0, w1⟩ := rd D hD
        refine ⟨W, w0, fun i m H2 hw => ?_⟩
        rcases w1 i m H2 hw with ⟨a1, a2⟩ | ⟨a1, Nx, a2, a3⟩
        · exact .inl ⟨a1, a2⟩
        · refine .inr ⟨a1, Nx, a2, fun x H' y => gT_mono (fun σ2 H2 ⟨b1, b2⟩ => ⟨b1, A.blk D, ?_⟩) (a3 x H' y)⟩
          obtain ⟨ρ2, M2, R2, q2⟩ := b2
          refine ⟨ρ2, M2, R2, mIT tst noE _ _ _ _ (fun b M3 k H3 R3 S3 => ?_) q2⟩
          have k := k H3 R3 S3
          cases b with
          | true => exact ⟨A.blk D, k⟩
          | false => exact k
      · cases h3
    · cases h
  | .dnew tk', e, c, X, A, E, hX, tk, h => by
    unfold chkE at h
    split at h
    · cases tk' with
      | true =>
        refine OkE.of (PE.imp pe_dnewT fun σ H Q ⟨ρ, M, R, q⟩ p hp => ?_)
        unfold sE at q
        exact q p (R.mem.free hp) (.ref p) _ (.ref put_same) (R.laidT hp .nil) (Stp.laidO R.mem hp)
      | false =>
        refine OkE.of (PE.imp pe_dnewK fun σ H Q ⟨ρ, M, R, q⟩ p hp => ?_)
        unfold sE at q
        exact q p (R.mem.free hp) (.ref p) _ (.ref put_same) (R.laidK hp .nil) (Stp.laidO R.mem hp)
    · cases h
  | .disp ks es, e, c, X, A, E, hX, tk, h => by
    unfold chkE at h
    split at h
    · rename_i k keys v vals pos
      obtain ⟨h1, h2⟩ := and2 h
      obtain ⟨h2, h3⟩ := and2 h2
      have h15 := of_decide_eq_true (and2 h1).1
      have hkv := of_decide_eq_true (and2 h1).2
      obtain ⟨trs, p1, p2, p3, p4⟩ := okPs es (v :: vals) ks (k :: keys) c X A E hX tk h2 h3 hkv pos
      refine OkE.of (PE.imp (pe_disp p1 p2 p3 (by simp) (by rw [p4.1]; exact h15)) fun σ H Q ⟨ρ, M, R, q⟩ p hp => ?_)
      unfold sE at q
      refine p4.2 σ ρ M _ _ _ (R.laid hp) q fun ds vs M1 H1 ⟨g1, g2, g3, g4⟩ r R1 S => ?_
      have hM := R.mem.free hp
      have hp1 : H1 p = some (.dK []) := S.keep p _ upd_same hM
      have hM1 : M1 p = none := S.free p _ upd_same hM
      refine ⟨hp1, (ks.zip vs).map fun p => ((.inr p.1 : Key), p.2), ?_, ?_, ?_⟩
      · rw [List.map_map]; rfl
      · rw [List.length_map, List.length_zip]; omega
      · have hl : vs.length = ks.length := by rw [r.length]; exact g1
        have keys : ((ks.zip vs).map fun p => ((.inr p.1 : Key), p.2)).map (·.1) = ks.map Sum.inr := by
          rw [List.map_map, show ((fun x : Key × V => x.1) ∘ fun p : Str × V => ((.inr p.1 : Key), p.2)) = (Sum.inr ∘ Prod.fst) from rfl, ← List.map_map, List.map_fst_zip (by omega)]
        have nd : (((ks.zip vs).map fun p => ((.inr p.1 : Key), p.2)).map (·.1)).Nodup := by
          rw [keys]
          exact List.Pairwise.map Sum.inr (fun a b h z => h (Sum.inr.inj z)) g3
        rw [merge_nd _ [] (fun _ _ z => by cases z) nd, List.nil_append]
        have kr := KRep.zipK (K := X.K) (M := M1) (H := H1) (Z := A.Z) ks vs ds g1 r
        obtain ⟨a1, a2, a3⟩ := adopt_all R hp R1 S hp1 kr
        exact g4 p hM1 (.ref p) _ a1 a2 a3
    · cases h
  | .pop a, e, c, X, A, E, hX, tk, h => by
    unfold chkE at h
    split at h
    · rename_i x m apos cpos
      obtain ⟨h1, h2⟩ := and2 h
      obtain ⟨h2, h3⟩ := and2 h2
      obtain ⟨h3, h4⟩ := and2 h3
      have em := of_decide_eq_true h1
      subst em
      refine OkE.of (PE.imp (pe_bm0 PySem.F.plainAttrs_list PySem.F.slot_list_pop PySem.F.type_list_pop mt_pop (okE a _ c X A E hX tk h4).1 (base_of h3) h2) fun σ H Q ⟨ρ, M, R, q⟩ => ?_)
      unfold sE at q
      refine one (mE a E) R q fun d v M1 H1 ⟨l, xs, d', e, g1, g2, k⟩ r R1 S => ?_
      subst e
      cases r
      obtain ⟨vs, e1, e2⟩ := R1.mem.obj l _ g1
      obtain ⟨w, f1, f2⟩ := e2.get g2
      refine ⟨.inl ⟨rfl, vs, .inl (.inl e1)⟩, l, vs, w, rfl, rfl, e1, by rw [e2.length]; exact f1, ?_⟩
      have R2 : RelS X.K A ρ (put M1 l (.lst xs.dropLast)) σ (upd H1 l (.lst vs.dropLast)) := R1.writeL g1 e2.dropLast
      exact k w _ (f2.mono (Stp.write g1)) R2 (S.trans (Stp.write g1))
    · cases h
  | .get a k d, e, c, X, A, E, hX, tk, h => by
    unfold chkE at h
    split at h
    · rename_i x m apos y z cpos
      obtain ⟨h1, h2⟩ := and2 h
      obtain ⟨h2, h3⟩ := and2 h2
      obtain ⟨h3, h4⟩ := and2 h3
      obtain ⟨h4, h5⟩ := and2 h4
      obtain ⟨h5, h6⟩ := and2 h5
      obtain ⟨h6, h7⟩ := and2 h6
      obtain ⟨h7, h8⟩ := and2 h7
      have em := of_decide_eq_true h1
      subst em
      have hu : X.A.units + 1 < cLine := by have := hX.room; omega
      refine OkE.of (PE.imp (pe_dget2 hu (okE a _ c X A E hX tk h4).1 (okE k _ c X A E hX tk h7).1 (okE d _ c X A E hX tk h8).1 (m2_of (base_of h3) h2 h5 h6)) fun σ H Q ⟨ρ, M, R, q⟩ => ?_)
      unfold sE at q
      refine one (mE a E) R q fun d1 v M1 H1 ⟨l, e, ⟨kvs, hk⟩, q⟩ r R1 S => ?_
      subst e
      cases r with
      | ref hr =>
        refine ⟨l, rfl, ?_, ?_⟩
        · obtain ⟨ws, g1, _⟩ := R1.mem.obj l _ hk
          exact .inl ⟨ws, .inl g1⟩
        · refine one (mE k E) R1 q fun dk vk M2 H2 q r2 R2 S2 => one (mE d E) R2 q fun dz vz M3 H3 ⟨o, e, q⟩ r3 R3 S3 => ?_
          obtain ⟨_, o', g, w⟩ := dget_of R3 (r2.mono S3) e
          refine ⟨o', g, ?_⟩
          have q := kc_step ((S.trans S2).trans S3) _ _ q
          rcases w with ⟨rfl, rfl⟩ | ⟨w, d', rfl, rfl, rw'⟩
          · exact R3.td r3 q
          · exact R3.td rw' q
    · cases h
theorem okEs : ∀ (ir : IEs) (es : List Expr) (c : Cc) (X : Cx) (A : An) (E : Exn → Mem → Prop), CtxE c Γ gs ca X → TakesE ca X A E → chkEs c ir es = true → PA X es (tds X.K A fun ρ M Q => sEs Γ gs ir ρ M Q E)
  | .nil, es, c, X, A, E, hX, tk, h => by
    unfold chkEs at h
    split at h
    · exact PA.imp pa_nil fun σ H Q ⟨ρ, M, R, q⟩ => by unfold sEs at q; exact q [] H .nil R Stp.refl
    · cases h
  | .cons e es, xs, c, X, A, E, hX, tk, h => by
    unfold chkEs at h
    split at h
    · obtain ⟨h1, h2⟩ := and2 h
      obtain ⟨h2, h3⟩ := and2 h2
      refine PA.imp (pa_cons (okE e _ c X A E hX tk h2).1 (okEs es _ c X A E hX tk h3) (star_cons h1)) fun σ H Q ⟨ρ, M, R, q⟩ => ?_
      unfold sEs at q
      exact one (mE e E) R q fun d v M1 H1 k r R1 S => ones (mEs es E) R1 k fun ds vs M2 H2 k r2 R2 S2 => k (v :: vs) H2 (.cons (r.mono S2) r2) R2 (S.trans S2)
    · cases h
theorem okIO : ∀ (ir : IO) (e : Option Expr) (c : Cc) (X : Cx) (A : An) (E : Exn → Mem → Prop), CtxE c Γ gs ca X → TakesE ca X A E → chkIO c ir e = true → PO X e (tdo X.K A fun ρ M Q => sIO Γ gs ir ρ M Q E)
  | .none, e, c, X, A, E, hX, tk, h => by
    unfold chkIO at h
    split at h
    · exact ⟨fun pins s σ H Q I ⟨ρ, M, R, q⟩ => by unfold sIO at q; exact po_none.run pins s σ H Q I (q H R Stp.refl)⟩
    · cases h
  | .some e, x, c, X, A, E, hX, tk, h => by
    unfold chkIO at h
    split at h
    · refine ⟨fun pins s σ H Q I ⟨ρ, M, R, q⟩ => ?_⟩
      unfold sIO at q
      refine (po_some (okE e _ c X A E hX tk h).1).run pins s σ H Q I (one (mE e E) R q fun d v M1 H1 ⟨i, e, k⟩ r R1 S => ?_)
      subst e
      cases r
      exact ⟨i, rfl, k H1 R1 S⟩
    · cases h
theorem okAnd : ∀ (ir : IEs) (es : List Expr) (c : Cc) (X : Cx) (A : An) (E : Exn → Mem → Prop), CtxE c Γ gs ca X → TakesE ca X A E → chkEs c ir es = true → ∀ pos : Pos,
    PE X (.BoolOp .And es pos) (td X.K A fun ρ M Q => sAnd Γ gs ir ρ M Q E) ∧ PW X (.BoolOp .And es pos) (tb X.K A fun ρ M Q => sAnd Γ gs ir ρ M (fun x M1 => ∃ b, truth M1 x = some b ∧ Q b M1) E)
  | .nil, es, c, X, A, E, hX, tk, h => by
    intro pos
    refine ⟨⟨fun pins s σ H Q I ⟨ρ, M, R, q⟩ => ?_⟩, ⟨fun wh pins s σ H Q I ⟨ρ, M, R, q⟩ => ?_⟩⟩ <;> (unfold sAnd at q; exact q.elim)
  | .cons e .nil, es, c, X, A, E, hX, tk, h => by
    intro pos
    unfold chkEs at h
    split at h
    · rename_i x xs
      obtain ⟨h1, h2⟩ := and2 h
      obtain ⟨h2, h3⟩ := and2 h2
      obtain ⟨o1, o2⟩ := okE e _ c X A E hX tk h2
      unfold chkEs at h3
      split at h3
      · refine ⟨PE.imp (pe_one o1) fun σ H Q ⟨ρ, M, R, q⟩ => ?_, PW.imp (pw_and1 o2) fun σ H Q ⟨ρ, M, R, q⟩ => ?_⟩ <;> (unfold sAnd at q; exact ⟨ρ, M, R, q⟩)
      · cases h3
    · cases h
  | .cons e (.cons f es), xs, c, X, A, E, hX, tk, h => by
    intro pos
    unfold chkEs at h
    split at h
    · rename_i x xs
      obtain ⟨h1, h2⟩ := and2 h
      obtain ⟨h2, h3⟩ := and2 h2
      obtain ⟨o1, o2⟩ := okE e _ c X A E hX tk h2
      obtain ⟨p1, p2⟩ := okAnd (.cons f es) xs c X A E hX tk h3 pos
      match xs, h3, p1, p2 with
      | [], h3, _, _ => unfold chkEs at h3; cases h3
      | y :: xs, _, p1, p2 =>
        refine ⟨PE.imp (pe_andT o1 p1) fun σ H Q ⟨ρ, M, R, q⟩ => ?_, PW.imp (pw_and o2 p2) fun σ H Q ⟨ρ, M, R, q⟩ => ?_⟩
        · unfold sAnd at q
          refine one (mE e E) R q fun d v M1 H1 ⟨b, e, k⟩ r R1 S => ⟨b, truth_of R1 r e, ?_⟩
          cases b with
          | true => exact ⟨ρ, M1, R1, sAnd_mono _ (kc_step S) (fun _ _ z => z) k⟩
          | false => exact R1.td r (kc_step S _ _ k)
        · unfold sAnd at q
          refine ⟨ρ, M, R, sE_mono e (fun x M1 ⟨b, e, k⟩ => ⟨b, e, fun H1 R1 S => ?_⟩) (fun _ _ z => z) q⟩
          cases b with
          | true => exact ⟨ρ, M1, R1, sAnd_mono _ (fun x M2 ⟨b, e, k⟩ => ⟨b, e, fun H2 R2 S2 => k H2 R2 (S.trans S2)⟩) (fun _ _ z => z) k⟩
          | false =>
            obtain ⟨b', e', k⟩ := k
            rw [e] at e'
            cases e'
            exact k H1 R1 S
    · cases h
theorem okOr : ∀ (ir : IEs) (es : List Expr) (c : Cc) (X : Cx) (A : An) (E : Exn → Mem → Prop), CtxE c Γ gs ca X → TakesE ca X A E → chkEs c ir es = true → ∀ pos : Pos,
    PE X (.BoolOp .Or es pos) (td X.K A fun ρ M Q => sOr Γ gs ir ρ M Q E) ∧ PW X (.BoolOp .Or es pos) (tb X.K A fun ρ M Q => sOr Γ gs ir ρ M (fun x M1 => ∃ b, truth M1 x = some b ∧ Q b M1) E)
  | .nil, es, c, X, A, E, hX, tk, h => by
    intro pos
    refine ⟨⟨fun pins s σ H Q I ⟨ρ, M, R, q⟩ => ?_⟩, ⟨fun wh pins s σ H Q I ⟨ρ, M, R, q⟩ => ?_⟩⟩ <;> (unfold sOr at q; exact q.elim)
  | .cons e .nil, es, c, X, A, E, hX, tk, h => by
    intro pos
    unfold chkEs at h
    split at h
    · rename_i x xs
      obtain ⟨h1, h2⟩ := and2 h
      obtain ⟨h2, h3⟩ := and2 h2
      obtain ⟨o1, o2⟩ := okE e _ c X A E hX tk h2
      unfold chkEs at h3
      split at h3
      · refine ⟨PE.imp (pe_one o1) fun σ H Q ⟨ρ, M, R, q⟩ => ?_, PW.imp (pw_or1 o2) fun σ H Q ⟨ρ, M, R, q⟩ => ?_⟩ <;> (unfold sOr at q; exact ⟨ρ, M, R, q⟩)
      · cases h3
    · cases h
  | .cons e (.cons f es), xs, c, X, A, E, hX, tk, h => by
    intro pos
    unfold chkEs at h
    split at h
    · rename_i x xs
      obtain ⟨h1, h2⟩ := and2 h
      obtain ⟨h2, h3⟩ := and2 h2
      obtain ⟨o1, o2⟩ := okE e _ c X A E hX tk h2
      obtain ⟨p1, p2⟩ := okOr (.cons f es) xs c X A E hX tk h3 pos
      match xs, h3, p1, p2 with
      | [], h3, _, _ => unfold chkEs at h3; cases h3
      | y :: xs, _, p1, p2 =>
        refine ⟨PE.imp (pe_orT o1 p1) fun σ H Q ⟨ρ, M, R, q⟩ => ?_, PW.imp (pw_or o2 p2) fun σ H Q ⟨ρ, M, R, q⟩ => ?_⟩
        · unfold sOr at q
          refine one (mE e E) R q fun d v M1 H1 ⟨b, e, k⟩ r R1 S => ⟨b, truth_of R1 r e, ?_⟩
          cases b with
          | false => exact ⟨ρ, M1, R1, sOr_mono _ (kc_step S) (fun _ _ z => z) k⟩
          | true => exact R1.td r (kc_step S _ _ k)
        · unfold sOr at q
          refine ⟨ρ, M, R, sE_mono e (fun x M1 ⟨b, e, k⟩ => ⟨b, e, fun H1 R1 S => ?_⟩) (fun _ _ z => z) q⟩
          cases b with
          | false => exact ⟨ρ, M1, R1, sOr_mono _ (fun x M2 ⟨b, e, k⟩ => ⟨b, e, fun H2 R2 S2 => k H2 R2 (S.trans S2)⟩) (fun _ _ z => z) k⟩
          | true =>
            obtain ⟨b', e', k⟩ := k
            rw [e] at e'
            cases e'
            exact k H1 R1 S
    · cases h
theorem okIT : ∀ (ir : IO) (es : List Expr) (c : Cc) (X : Cx) (A : An) (E : Exn → Mem → Prop), CtxE c Γ gs ca X → TakesE ca X A E → chkIT c ir es = true → PTs X es (tb X.K A fun ρ M Q => sIT Γ gs ir ρ M Q E)
  | .none, e, c, X, A, E, hX, tk, h => by
    unfold chkIT at h
    split at h
    · exact ⟨fun pins s σ H Q I ⟨ρ, M, R, q⟩ => by unfold sIT at q; exact pts_nil.run pins s σ H Q I (q H R Stp.refl)⟩
    · cases h
  | .some e, x, c, X, A, E, hX, tk, h => by
    unfold chkIT at h
    split at h
    · exact ⟨fun pins s σ H Q I ⟨ρ, M, R, q⟩ => by unfold sIT at q; exact (pts_one (okE e _ c X A E hX tk h).2).run pins s σ H Q I ⟨ρ, M, R, q⟩⟩
    · cases h
theorem okI : ∀ (ir : II) (e : Expr) (c : Cc) (X : Cx) (A : An) (E : Exn → Mem → Prop), CtxE c Γ gs ca X → TakesE ca X A E → chkI c ir e = true → ∀ tg : Expr, PI X tg e (ti X.K A fun ρ M Q => sI Γ gs ir ρ M Q E)
  | .seq e, x, c, X, A, E, hX, tk, h => by
    intro tg
    unfold chkI at h
    obtain ⟨h1, h2⟩ := and2 h
    refine PI.imp (pi_any (okE e _ c X A E hX tk h2).1) fun σ H R' ⟨ρ, M, R, q⟩ => ?_
    unfold sI at q
    refine one (mE e E) R q fun d v M1 H1 ⟨xs, e, k⟩ r R1 S => ?_
    have oth : ∀ a, v = .ref a → (∀ xs, d ≠ .tup xs) → ∃ a, v = .ref a ∧ ((∃ xs, SqL X.K H1 a xs) ∧ R' (Itl X.K a) H1 ∨ (∃ xs, SqT X.K H1 a xs) ∧ R' (Itt X.K a) H1) := fun a ea nt => by
      subst ea
      obtain ⟨vs, g1, g2⟩ := sql_of R1 r nt e
      exact ⟨a, rfl, .inl ⟨⟨vs, g1⟩, k e _ _ (.inl ⟨a, d, rfl, r, nt, rfl⟩) R1 S⟩⟩
    cases r with
    | tup ht r => cases e; exact ⟨_, rfl, .inr ⟨⟨_, ht.seq⟩, k rfl _ _ (.inr (.inl ⟨_, _, rfl, .tup ht r, rfl⟩)) R1 S⟩⟩
    | lst => exact oth _ rfl fun _ z => by cases z
    | scr => exact oth _ rfl fun _ z => by cases z
    | ref => exact oth _ rfl fun _ z => by cases z
    | _ => cases e
  | .rng1 a, x, c, X, A, E, hX, tk, h => by
    intro tg
    unfold chkI at h
    split at h
    · obtain ⟨h1, h2⟩ := and2 h
      obtain ⟨h2, h3⟩ := and2 h2
      obtain ⟨h3, h4⟩ := and2 h3
      have er := of_decide_eq_true h1
      subst er
      refine PI.imp (pi_range1 (glo_of hX.sn h2) (hX.blt _ (by decide +kernel)) (pa_cons (okE a _ c X A E hX tk h4).1 pa_nil (star_cons h3)) (star_cons h3)) fun σ H R' ⟨ρ, M, R, q⟩ => ?_
      unfold sI at q
      refine one (mE a E) R q fun d v M1 H1 ⟨n, e, ⟨b1, b2⟩, k⟩ r R1 S => ?_
      subst e
      cases r
      exact ⟨n, rfl, b1, b2, k trivial _ _ (.inr (.inr ⟨0, n.toNat, rfl, by simp⟩)) R1 S⟩
    · cases h
  | .rng2 a b, x, c, X, A, E, hX, tk, h => by
    intro tg
    unfold chkI at h
    split at h
    · obtain ⟨h1, h2⟩ := and2 h
      obtain ⟨h2, h3⟩ := and2 h2
      obtain ⟨h3, h4⟩ := and2 h3
      obtain ⟨h4, h5⟩ := and2 h4
      obtain ⟨h5, h6⟩ := and2 h5
      have er := of_decide_eq_true h1
      subst er
      refine PI.imp (pi_range2 (glo_of hX.sn h2) (hX.blt _ (by decide +kernel)) (pa_cons (okE a _ c X A E hX tk h5).1 (pa_cons (okE b _ c X A E hX tk h6).1 pa_nil (star_cons h4)) (star_cons h3)) (by rw [star_cons h3, star_cons h4]; rfl) (star_cons h4)) fun σ H R' ⟨ρ, M, R, q⟩ => ?_
      unfold sI at q
      refine two (mE a E) (mE b E) R q fun d e v u M1 H1 ⟨m, n, e1, e2, bb, k⟩ r1 r2 R1 S => ?_
      subst e1 e2
      cases r1
      cases r2
      exact ⟨m, n, rfl, bb, k trivial _ _ (.inr (.inr ⟨m, (n - m).toNat, rfl, rfl⟩)) R1 S⟩
    · cases h
theorem okPs : ∀ (ir : IEs) (vals : List Expr) (ks : List Str) (keys : List (Option Expr)) (c : Cc) (X : Cx) (A : An) (E : Exn → Mem → Prop), CtxE c Γ gs ca X → TakesE ca X A E → keysB ks keys = true → chkEs c ir vals = true → ks.length = vals.length → ∀ pos : Pos,
    ∃ trs : List (TE × TE), PPs X pos keys vals trs ∧ keys.all (·.isSome) = true ∧ keys.length = vals.length ∧ keys.length = ks.length ∧ ∀ (σ : St) (ρ : Env) (M : Mem) (H : Hp) (P : List D → Mem → Prop) (k : List (V × V) → Hp → Prop), RelS X.K A ρ M σ H → sEs Γ gs ir ρ M P E →
      (∀ ds vs M1 H1, P ds M1 → Reps X.K A.Z M1 H1 vs ds → RelS X.K A ρ M1 σ H1 → Stp M H M1 H1 → k ((ks.zip vs).map fun p => (V.str p.1, p.2)) H1) → tPairs trs σ H k
  | .nil, vals, ks, keys, c, X, A, E, hX, tk, h1, h2, h0 => by
    intro pos
    unfold chkEs at h2
    split at h2
    · match ks, keys, h1 with
      | [], [], _ =>
        refine ⟨[], pps_nil, rfl, rfl, rfl, fun σ ρ M H P k R q f => ?_⟩
        unfold sEs at q
        exact f [] [] M H q .nil R Stp.refl
      | [], _ :: _, h1 => unfold keysB at h1; cases h1
      | _ :: _, [], h1 => unfold keysB at h1; cases h1
      | s :: ss, e :: es, h1 => simp at h0
    · cases h2
  | .cons e es, vals, ks, keys, c, X, A, E, hX, tk, h1, h2, h0 => by
    intro pos
    unfold chkEs at h2
    split at h2
    · rename_i x xs
      obtain ⟨g1, g2⟩ := and2 h2
      obtain ⟨g2, g3⟩ := and2 g2
      match ks, keys, h1 with
      | [], _, h1 => simp at h0
      | _ :: _, [], h1 => unfold keysB at h1; cases h1
      | s :: ss, y :: ys, h1 =>
        unfold keysB at h1
        obtain ⟨f1, f2⟩ := and2 h1
        obtain ⟨trs, p1, p2, p3, p4, p5⟩ := okPs es xs ss ys c X A E hX tk f2 g3 (by simpa using h0) pos
        cases y with
        | none => cases f1
        | some ye =>
          cases ye with
          | Constant kc j kp =>
            cases kc with
            | str t =>
              have et := of_decide_eq_true f1
              subst et
              refine ⟨(tC (.str _), td X.K A fun ρ M Q => sE Γ gs e ρ M Q E) :: trs, pps_cons pe_str (okE e _ c X A E hX tk g2).1 p1, by rw [List.all_cons, p2]; rfl, by simp [p3], by simp [p4], fun σ ρ M H P k R q f => ?_⟩
              unfold sEs at q
              refine one (mE e E) R q fun d v M1 H1 q r R1 S => p5 σ ρ M1 H1 _ _ R1 q fun ds vs M2 H2 q r2 R2 S2 => ?_
              exact f (d :: ds) (v :: vs) M2 H2 q (.cons (r.mono S2) r2) R2 (S.trans S2)
            | _ => cases f1
          | _ => cases f1
    · cases h2
end
end
end DL
set_option Elab.async false
set_option linter.all false
set_option maxRecDepth 100000
set_option maxHeartbeats 4000000
namespace DL
open PySem PySem.Spec PyProof.Rows L2
/-! ### the checker of statements -/
def swapNames (sn : List (Str × NameKind)) (line : Nat) (ts : List Expr) : List Str := ts.filterMap fun
    | .Name id pos => if sn.lookup id == some .local && pos.line == line then some id else none
    | _ => none
def swapT (targets : List Expr) (value : Expr) : Option (List Expr × List Expr) := match targets, value with
    | [.Tuple ts _ _], .Tuple vs _ _ | [.List ts _], .Tuple vs _ _ => some (ts, vs)
    | _, _ => none
def swapB (sn : List (Str × NameKind)) (targets : List Expr) (value : Expr) : Option (Option (List Str)) :=
  match swapT targets value with
  | none => some none
  | some (ts, vs) =>
    if !(ts.length == 2 || ts.length == 3) || vs.length != ts.length then some none
    else if vs.any fun | .Starred .. => true | _ => false then some none
    else
      let names := swapNames sn ((ts.head?.map (·.pos.line)).getD 0) ts
      if names.length != ts.length || names.eraseDups.length != names.length then some none
      else if vs.all (foldedForSure 8) then some none
      else if vs.all (constantsAlone 8) then none
      else some (some names)
theorem swap_eq {sn : List (Str × NameKind)} {targets : List Expr} {value : Expr} {env : PySem.Env} {r : Option (List Str)} (e1 : env.scope.names = sn) (e2 : env.scope.kind = .function) (h : swapB sn targets value = some r) :
    swappedStores targets value env = pure r := by
  have bk : (env.blockKind != .function) = false := by unfold Env.blockKind; rw [e2]; rfl
  unfold swapB at h
  unfold swappedStores
  show (match swapT targets value with
    | some (ts, vs) => _
    | _ => pure none) = _
  cases q : swapT targets value with
  | none => rw [q] at h; cases h; rfl
  | some p =>
    obtain ⟨ts, vs⟩ := p
    rw [q] at h
    dsimp only at h ⊢
    rw [bk, Bool.or_false]
    have nm : (ts.filterMap fun
      | .Name id pos => if env.kindOf id == some .local && pos.line == (ts.head?.map (·.pos.line)).getD 0 then some id else none
      | _ => none) = swapNames sn ((ts.head?.map (·.pos.line)).getD 0) ts := by
      unfold swapNames Env.kindOf
      rw [e1]
    split at h
    · rename_i c
      cases h
      rw [if_pos c]
    · rename_i c
      rw [if_neg c]
      split at h
      · rename_i c
        cases h
        exact if_pos c
      · rename_i c
        refine (if_neg c).trans ?_
        try dsimp only at h
        try dsimp only
        rw [← nm] at h
        split at h
        · rename_i c
          cases h
          exact if_pos c
        · rename_i c
          refine (if_neg c).trans ?_
          split at h
          · rename_i c
            cases h
            exact if_pos c
          · rename_i c
            refine (if_neg c).trans ?_
            split at h
            · cases h
            · rename_i c
              cases h
              exact if_neg c
def notComp : Expr → Bool
  | .ListComp .. => false
  | .SetComp .. => false
  | .DictComp .. => false
  | _ => true
/-- name = [..] on one line, a local -/
def swapC (sn : List (Str × NameKind)) (x : Str) (px : Pos) : Expr → Bool
  | .ListComp _ _ scope pos => sn.lookup x == some .local && px.line == pos.line && !(scope.names.any fun (n, k) => n == x && (k == .local || k == .cell))
  | _ => false
def isLc : IE → Bool
  | .lc .. => true
  | _ => false
def stB (c : Cc) (own : List (Str × Nat)) : Bool := own.all fun p => decide (c.N[p.2]? = some p.1) && locB c.sn p.1
mutual
def chkS (c : Cc) : IS → Stmt → Bool
  | .set i e, s => match s with
    | .Assign [.Name x px] v _ => stB c [(x, i)] && (chkE c e v && (notComp v || isLc e))
    | _ => false
  | .par i j a b, s => match s with
    | .Assign [.Tuple [.Name x px, .Name y py] kt pt] (.Tuple [u, v] k2 pt2) _ => (decide (i ≠ j) && (decide (c.N[i]? = some x) && decide (c.N[j]? = some y))) && ((decide (c.sn.lookup x = some .local) && decide (c.sn.lookup y = some .local)) &&
        (decide (swapB c.sn [.Tuple [.Name x px, .Name y py] kt pt] (.Tuple [u, v] k2 pt2) = some (some [x, y])) && (notStar u && (notStar v && (chkE c a u && chkE c b v)))))
    | _ => false
  | .par3 i j l a b d, s => match s with
    | .Assign [.Tuple [.Name x px, .Name y py, .Name z pz] kt pt] (.Tuple [u, v, w] k2 pt2) _ => ((decide (i ≠ j) && (decide (i ≠ l) && decide (j ≠ l))) && (decide (c.N[i]? = some x) && (decide (c.N[j]? = some y) && decide (c.N[l]? = some z)))) &&
        ((decide (c.sn.lookup x = some .local) && (decide (c.sn.lookup y = some .local) && decide (c.sn.lookup z = some .local))) &&
        (decide (swapB c.sn [.Tuple [.Name x px, .Name y py, .Name z pz] kt pt] (.Tuple [u, v, w] k2 pt2) = some (some [x, y, z])) && (notStar u && (notStar v && (notStar w && (chkE c a u && (chkE c b v && chkE c d w)))))))
    | _ => false
  | .unp t e, s => match s with
    | .Assign [tg] v _ => (match tg with | .Tuple .. => true | _ => false) && (notComp v && (decide (swapB c.sn [tg] v = some none) && (chkE c e v && (match tgOwn t tg with
      | some own => stB c own
      | none => false))))
    | _ => false
  | .six o k e, s => match s with
    | .Assign [.Subscript x y _] v _ => plainB y && (chkE c o x && (chkE c k y && chkE c e v))
    | _ => false
  | .exp e, s => match s with
    | .Expr v _ => notComp v && chkE c e v
    | _ => false
  | .app o e, s => match s with
    | .Expr (.Call (.Attribute x m apos) [y] [] cpos) _ => decide (m = ("append" : Str)) && (apos.endLine == cpos.line && (notCall0 x && (notStar y && (chkE c o x && chkE c e y))))
    | _ => false
  | .ret e, s => match s with
    | .Return (some v) _ => chkE c e v
    | _ => false
  | .retN, s => match s with
    | .Return none _ => true
    | _ => false
  | .pass, s => match s with
    | .Pass _ => true
    | _ => false
  | .brk, s => match s with
    | .Break _ => true
    | _ => false
  | .cont, s => match s with
    | .Continue _ => true
    | _ => false
  | .never, _ => true
  | .ite e a b, s => match s with
    | .If t x y _ => chkE c e t && (chkSs c a x && chkSs c b y)
    | _ => false
  | .for t it body, s => match s with
    | .For tg iter x [] _ => chkI c it iter && ((match tgOwn t tg with
      | some own => stB c own
      | none => false) && chkSs c body x)
    | _ => false
  | .while e body, s => match s with
    | .While t x [] _ => chkE c e t && chkSs c body x
    | _ => false
def chkSs (c : Cc) : ISs → List Stmt → Bool
  | .nil, xs => match xs with
    | [] => true
    | _ => false
  | .cons s ss, xs => match xs with
    | x :: xs => chkS c s x && chkSs c ss xs
    | _ => false
end
end DL
set_option Elab.async false
set_option linter.all false
set_option maxRecDepth 100000
set_option maxHeartbeats 4000000
namespace DL
open PySem PySem.Spec PyProof.Rows L2
structure CtxS (c : Cc) (Γ : List DSp) (gs : List D) (ca : Nat → Addr) (X : Cx) : Prop where
  e : CtxE c Γ gs ca X
  own : PassesOwn (model X.prog X.w) X.A X.env X.xe
  fn : ∀ x, X.fn x = true
/-- what is wanted behind a statement, by data -/
def scK (K : PySem.W.Frag) (A : An) (M : Mem) (H : Hp) (D : Ends) : SC where
  nx := fun ρ' M' => ∀ σ' H', RelS K A ρ' M' σ' H' → Stp M H M' H' → D.nx σ' H'
  rt := fun d M' => ∀ v ρ' σ' H', Rep K A.Z M' H' v d → RelS K A ρ' M' σ' H' → D.rt v H'
  bk := fun ρ' M' => ∀ σ' H', RelS K A ρ' M' σ' H' → Stp M H M' H' → D.bk σ' H'
  ct := fun ρ' M' => ∀ σ' H', RelS K A ρ' M' σ' H' → Stp M H M' H' → D.ct σ' H'
def tss (K : PySem.W.Frag) (A : An) (w : Env → Mem → SC → Prop) : TS := fun D σ H => ∃ ρ M, RelS K A ρ M σ H ∧ w ρ M (scK K A M H D)
theorem sc_step {K : PySem.W.Frag} {A : An} {M M1 : Mem} {H H1 : Hp} {D : Ends} (s : Stp M H M1 H1) : (scK K A M H D).Le (scK K A M1 H1 D) :=
  ⟨fun _ _ h σ' H' R s' => h σ' H' R (s.trans s'), fun _ _ h => h, fun _ _ h σ' H' R s' => h σ' H' R (s.trans s'), fun _ _ h σ' H' R s' => h σ' H' R (s.trans s')⟩
theorem sto_of {X : Cx} {c : Cc} {own : List (Str × Nat)} (hN : X.N = c.N) (sn : X.env.scope.names = c.sn) (fn : ∀ x, X.fn x = true) (h : stB c own = true) : StoOk X own := by
  intro p hp
  obtain ⟨h1, h2⟩ := and2 (List.all_eq_true.mp h p hp)
  refine ⟨by rw [hN]; exact of_decide_eq_true h1, ?_, .inl (fn _)⟩
  unfold locB at h2
  rw [← sn] at h2
  unfold L2.Loc
  cases q : X.env.scope.names.lookup p.1 with
  | none => rw [q] at h2; cases h2
  | some k =>
    rw [q] at h2
    cases k <;> first | exact .inl rfl | exact .inr rfl | (cases h2; done)
theorem swaps_no {v : Expr} {t : Option Expr} {l : Nat} {env : PySem.Env} (h : notComp v = true) : swapsWith v t l env = pure false := by
  cases v <;> first | rfl | (cases h; done)
section
variable {Γ : List DSp} {gs : List D} {ca : Nat → Addr}
/-- a comprehension's parts -/
theorem lc_parts {own : Bool} {t : Tg} {elt : IE} {it : II} {tst : IO} {e : Expr} {c : Cc} {X : Cx} {A : An} {E : Exn → Mem → Prop} (hX : CtxE c Γ gs ca X) (tk : TakesE ca X A E) (h : chkE c (.lc own t elt it tst) e = true) :
    ∃ x tg iter ifs scope pos ow, e = .ListComp x [⟨tg, iter, ifs, 0⟩] scope pos ∧ ∃ (wi : TI) (tt : TT) (te : TE), PI X tg iter wi ∧ BlkOk X.N X.env.scope scope ow ∧
      (∀ (s : Shared) (H : Hp) (C : Addr) (cl : List (Str × Addr)) (fp : List Addr), PG (X.blk s H scope (compEnvC scope cl C X.env) fp) tg (gT X.K t)) ∧
      (∀ (s : Shared) (H : Hp) (C : Addr) (cl : List (Str × Addr)) (fp : List Addr), PTs (X.blk s H scope (compEnvC scope cl C X.env) fp) ifs tt) ∧
      (∀ (s : Shared) (H : Hp) (C : Addr) (cl : List (Str × Addr)) (fp : List Addr), PE (X.blk s H scope (compEnvC scope cl C X.env) fp) x te) ∧ (∀ x, foldedSetIterable iter X.env x = pure x) ∧
      ∀ σ H Q, td X.K A (fun ρ M Q => sE Γ gs (.lc own t elt it tst) ρ M Q E) σ H Q → tLc wi (gT X.K t) tt te (ow.map (·.2)) σ H Q := by
  unfold chkE at h
  split at h
  · rename_i x tg iter ifs a scope pos
    obtain ⟨h1, h2⟩ := and2 h
    have ea := of_decide_eq_true h1
    subst ea
    obtain ⟨h2, h3⟩ := and2 h2
    split at h3
    · rename_i ow how
      obtain ⟨h4, h5⟩ := and2 h3
      obtain ⟨h5, h6⟩ := and2 h5
      obtain ⟨h6, h7⟩ := and2 h6
      have bo := blk_ok (sc := X.env.scope) hX.sn h4
      have hk := bo.kind
      have set : ∀ x, foldedSetIterable iter X.env x = pure x := by
        intro x
        cases iter <;> first | rfl | (cases it <;> (unfold chkI at h2; first | (cases h2; done) | (exact absurd (and2 h2).1 (by decide))))
      have rd := okI it iter c X A E hX tk h2
      refine ⟨x, tg, iter, ifs, scope, pos, ow, rfl, _, (fun σ H Q => ∃ A, tb X.K A (fun ρ M Q => sIT Γ gs tst ρ M Q noE) σ H Q), (fun σ H Q => ∃ A, td X.K A (fun ρ M Q => sE Γ gs elt ρ M Q noE) σ H Q), rd tg, by rw [hX.N]; exact bo, ?_, ?_, ?_, set, ?_⟩
      · exact fun s H C cl fp => tg_pg (X := X.blk s H scope (compEnvC scope cl C X.env) fp) hX.nd hX.calm how (sto_blk hX.N h5 s H C cl fp)
      · exact fun s H C cl fp => ⟨fun pins s' σ' H' Q I ⟨A', q⟩ => (okIT tst ifs _ _ A' noE (hX.blk hk s H C cl fp) takesNo h7).run pins s' σ' H' Q I q⟩
      · exact fun s H C cl fp => ⟨fun pins s' σ' H' Q I ⟨A', q⟩ => (okE elt x _ _ A' noE (hX.blk hk s H C cl fp) takesNo h6).1.run pins s' σ' H' Q I q⟩
      · rintro σ H Q ⟨ρ, M, R, q⟩
        unfold sE at q
        refine ⟨ρ, M, R, sI_mono it (fun src M1 k kp J H1 jb R1 S => ?_) (fun _ _ z => z) q⟩
        have rd := lc_read (t := t) (own := own) (Q := Q) (mIT tst noE) (mE elt noE) R1 jb kp (by refine lcL_mono ?_ ?_ ?_ ?_ _ _ _ k; exact fun _ _ _ _ => tgW_mono; exact mIT tst noE; exact mE elt noE; exact fun ds M2 h => newL_mono (kc_step S) h)
        rw [tg_slots how]
        intro D hD
        obtain ⟨W, w0, w1⟩ := rd D hD
        refine ⟨W, w0, fun i m H2 hw => ?_⟩
        rcases w1 i m H2 hw with ⟨a1, a2⟩ | ⟨a1, Nx, a2, a3⟩
        · exact .inl ⟨a1, a2⟩
        · refine .inr ⟨a1, Nx, a2, fun x H' y => gT_mono (fun σ2 H2 ⟨b1, b2⟩ => ⟨b1, A.blk D, ?_⟩) (a3 x H' y)⟩
          obtain ⟨ρ2, M2, R2, q2⟩ := b2
          refine ⟨ρ2, M2, R2, mIT tst noE _ _ _ _ (fun b M3 k H3 R3 S3 => ?_) q2⟩
          have k := k H3 R3 S3
          cases b with
          | true => exact ⟨A.blk D, k⟩
          | false => exact k
    · cases h3
  · cases h
/-- o[i] = v, by data -/
def rSix (X : Cx) : TSet := fun o i v H Q => ∃ A ρ τ M a dk dv, RelS X.K A ρ M τ H ∧ Rep X.K A.Z M H o (.ref a) ∧ Rep X.K A.Z M H i dk ∧ Rep X.K A.Z M H v dv ∧ six1 M a dk dv fun M' => ∀ H', RelS X.K A ρ M' τ H' → Stp M H M' H' → Q H'
theorem set_six {X : Cx} (hu : X.A.units + 65 < cLine) : PSet X (rSix X) := by
  rintro pins s σ H o i v ov iv u Q I r1 r2 r3 ⟨A, ρ, τ, M, a, dk, dv, R, ho, hi, hv, h⟩
  cases ho with
  | ref hr =>
    rcases h with ⟨xs, k, j, e, rfl, e2, k⟩ | ⟨kvs, q, e, e2, e3, k⟩
    · obtain ⟨vs, g1, g2⟩ := R.mem.obj a _ e
      cases hi
      refine set_list pins s σ H _ _ v ov iv u Q I r1 r2 r3 ⟨a, vs, _, j, rfl, rfl, g1, by rw [g2.length]; exact e2, ?_⟩
      exact k _ (R.writeL e (g2.set hv j)) (Stp.write e)
    · obtain ⟨vs, g1, g2⟩ := R.mem.obj a _ e
      have ek := key_rel hi e2
      subst ek
      cases r1
      refine d_setItem (by omega) I (DPut.k g1 (by rw [krep_len g2]; exact e3)) r2 r3 fun s' I' => ⟨_, I', ?_⟩
      exact k _ (R.writeK e (krep_put hv g2)) (Stp.write e)
mutual
theorem okS : ∀ (ir : IS) (st : Stmt) (c : Cc) (X : Cx) (A : An) (E : Exn → Mem → Prop), CtxS c Γ gs ca X → TakesE ca X A E → chkS c ir st = true → PS X st (tss X.K A fun ρ M C => sS Γ gs ir ρ M C E)
  | .set i e, st, c, X, A, E, hX, tk, h => by
    unfold chkS at h
    split at h
    · rename_i x px v pos
      obtain ⟨h1, h2⟩ := and2 h
      obtain ⟨h2, h3⟩ := and2 h2
      obtain ⟨s1, s2, s3⟩ := sto_of hX.e.N hX.e.sn hX.fn h1 (x, i) List.mem_cons_self
      have read : ∀ {D : Ends} {σ : St} {H : Hp}, tss X.K A (fun ρ M C => sS Γ gs (.set i e) ρ M C E) D σ H → td X.K A (fun ρ M Q => sE Γ gs e ρ M Q E) σ H fun v H1 => D.nx (σ.set i (some v)) H1 := fun {D σ H} ⟨ρ, M, R, q⟩ => by
        unfold sS at q
        exact one (mE e E) R q fun d v M1 H1 k r R1 S => k _ H1 (R1.set r) S
      by_cases nc : notComp v = true
      · exact PS.imp (ps_set (i := i) hX.e.nd s1 s2 (okE e v c X A E hX.e tk h2).1 (swaps_no nc) s3) fun D σ H q => read q
      · have il : isLc e = true := by
          rcases Bool.or_eq_true_iff.mp h3 with z | z
          · exact absurd z nc
          · exact z
        cases e with
        | lc own t elt it tst =>
          by_cases sc : X.env.scope.names.lookup x = some .local ∧ swapC c.sn x px v = true
          · obtain ⟨y, tg, iter, ifs, scope, pos', ow, rfl, wi, tt, te, p1, p2, p3, p4, p5, p6, p7⟩ := lc_parts hX.e tk h2
            unfold swapC at sc
            obtain ⟨l1, l2⟩ := sc
            obtain ⟨l2, l3⟩ := and2 l2
            obtain ⟨l2, l4⟩ := and2 l2
            exact PS.imp (ps_setLc (i := i) hX.e.calm hX.e.nd s1 l1 (sw_true hX.e.kind l1 l4 (not2 l3)) p1 p2 p3 p4 p5 p6) fun D σ H q => p7 σ H _ (read q)
          · have sw : swapsWith v (some (.Name x px)) pos.line X.env = pure false := by
              obtain ⟨y, tg, iter, ifs, scope, pos', ow, rfl, _⟩ := lc_parts hX.e tk h2
              have bk : (X.env.blockKind == .function) = true := by unfold Env.blockKind; rw [hX.e.kind]; rfl
              show pure (X.env.blockKind == .function && X.env.kindOf x == some .local && px.line == pos'.line && !(scope.names.any fun (n, k) => n == x && (k == .local || k == .cell))) = pure false
              have ek : X.env.kindOf x = X.env.scope.names.lookup x := rfl
              rw [bk, Bool.true_and, ek]
              by_cases z : X.env.scope.names.lookup x = some .local
              · have z2 : swapC c.sn x px (.ListComp y [⟨tg, iter, ifs, 0⟩] scope pos') = false := by
                  cases q : swapC c.sn x px (.ListComp y [⟨tg, iter, ifs, 0⟩] scope pos') with
                  | false => rfl
                  | true => exact absurd ⟨z, q⟩ sc
                unfold swapC at z2
                rw [← hX.e.sn] at z2
                exact congrArg pure z2
              · have z3 : (X.env.scope.names.lookup x == some .local) = false := by
                  cases q : (X.env.scope.names.lookup x == some .local) with
                  | false => rfl
                  | true => exact absurd (eq_of_beq q) z
                rw [z3, Bool.false_and, Bool.false_and]
            exact PS.imp (ps_set (i := i) hX.e.nd s1 s2 (okE _ v c X A E hX.e tk h2).1 sw s3) fun D σ H q => read q
        | _ => cases il
    · cases h
  | .par i j a b, st, c, X, A, E, hX, tk, h => by
    unfold chkS at h
    split at h
    · rename_i x px y py kt pt u v k2 pt2 pos
      obtain ⟨h1, h2⟩ := and2 h
      obtain ⟨h0, h1⟩ := and2 h1
      obtain ⟨n1, n2⟩ := and2 h1
      obtain ⟨h3, h4⟩ := and2 h2
      obtain ⟨l1, l2⟩ := and2 h3
      obtain ⟨h4, h5⟩ := and2 h4
      obtain ⟨h5, h6⟩ := and2 h5
      obtain ⟨h6, h7⟩ := and2 h6
      obtain ⟨h7, h8⟩ := and2 h7
      have oa := (okE a u c X A E hX.e tk h7).1
      have ob := (okE b v c X A E hX.e tk h8).1
      refine PS.imp (ps_par (i := i) (j := j) hX.e.calm hX.e.nd (by rw [hX.e.N]; exact of_decide_eq_true n1) (by rw [hX.e.N]; exact of_decide_eq_true n2) (of_decide_eq_true h0) (by rw [hX.e.sn]; exact of_decide_eq_true l1) (by rw [hX.e.sn]; exact of_decide_eq_true l2)
        (pa_cons oa (pa_cons ob pa_nil (star_cons h6)) (star_cons h5)) (swap_eq hX.e.sn hX.e.kind (of_decide_eq_true h4))) fun D σ H ⟨ρ, M, R, q⟩ => ?_
      unfold sS at q
      exact two (mE a E) (mE b E) R q fun d e v u M1 H1 k r1 r2 R1 S => ⟨v, u, rfl, k _ H1 ((R1.set r1).set r2) S⟩
    · cases h
  | .par3 i j l a b d, st, c, X, A, E, hX, tk, h => by
    unfold chkS at h
    split at h
    · rename_i x px y py z pz kt pt u v w k2 pt2 pos
      obtain ⟨h1, h2⟩ := and2 h
      obtain ⟨h0, h1⟩ := and2 h1
      obtain ⟨ij, h0⟩ := and2 h0
      obtain ⟨il, jl⟩ := and2 h0
      obtain ⟨n1, h1⟩ := and2 h1
      obtain ⟨n2, n3⟩ := and2 h1
      obtain ⟨h3, h4⟩ := and2 h2
      obtain ⟨l1, h3⟩ := and2 h3
      obtain ⟨l2, l3⟩ := and2 h3
      obtain ⟨h4, h5⟩ := and2 h4
      obtain ⟨t1, h5⟩ := and2 h5
      obtain ⟨t2, h5⟩ := and2 h5
      obtain ⟨t3, h5⟩ := and2 h5
      obtain ⟨h7, h8⟩ := and2 h5
      obtain ⟨h8, h9⟩ := and2 h8
      have oa := (okE a u c X A E hX.e tk h7).1
      have ob := (okE b v c X A E hX.e tk h8).1
      have od := (okE d w c X A E hX.e tk h9).1
      refine PS.imp (ps_par3 (i := i) (j := j) (l := l) hX.e.calm hX.e.nd (by rw [hX.e.N]; exact of_decide_eq_true n1) (by rw [hX.e.N]; exact of_decide_eq_true n2) (by rw [hX.e.N]; exact of_decide_eq_true n3) (of_decide_eq_true ij) (of_decide_eq_true il) (of_decide_eq_true jl)
        (by rw [hX.e.sn]; exact of_decide_eq_true l1) (by rw [hX.e.sn]; exact of_decide_eq_true l2) (by rw [hX.e.sn]; exact of_decide_eq_true l3)
        (pa_cons oa (pa_cons ob (pa_cons od pa_nil (star_cons t3)) (star_cons t2)) (star_cons t1)) (swap_eq hX.e.sn hX.e.kind (of_decide_eq_true h4))) fun D σ H ⟨ρ, M, R, q⟩ => ?_
      unfold sS at q
      exact one (mE a E) R q fun d1 v1 M1 H1 q r1 R1 S1 => two (mE b E) (mE d E) R1 q fun d2 d3 v2 v3 M3 H3 k r2 r3 R3 S3 => ⟨v1, v2, v3, rfl, k _ H3 (((R3.set (r1.mono S3)).set r2).set r3) (S1.trans S3)⟩
    · cases h
  | .unp t e, st, c, X, A, E, hX, tk, h => by
    unfold chkS at h
    split at h
    · rename_i tg v pos
      obtain ⟨ga, gb⟩ := and2 h
      obtain ⟨gc, gd⟩ := and2 gb
      obtain ⟨ge, gf⟩ := and2 gd
      obtain ⟨gg, h4⟩ := and2 gf
      split at h4
      · rename_i own how
        have S := sto_of hX.e.N hX.e.sn hX.fn h4
        cases tg with
        | Tuple ts kt pt =>
          refine PS.imp (ps_asg (okE e v c X A E hX.e tk gg).1 (tg_pg hX.e.nd hX.e.calm how S) (by show swapsWith v (some (.Tuple ts kt pt)) pos.line X.env = pure false; exact swaps_no gc) (swap_eq hX.e.sn hX.e.kind (of_decide_eq_true ge))) fun D σ H ⟨ρ, M, R, q⟩ => ?_
          unfold sS at q
          exact one (mE e E) R q fun d v M1 H1 k r R1 S => gT_of r R1 k fun ρ' σ' R' k _ => k σ' H1 R' S
        | _ => cases ga
      · cases h4
    · cases h
  | .six o k e, st, c, X, A, E, hX, tk, h => by
    unfold chkS at h
    split at h
    · rename_i x y p v pos
      obtain ⟨h1, h2⟩ := and2 h
      obtain ⟨h2, h3⟩ := and2 h2
      obtain ⟨h3, h4⟩ := and2 h3
      have ha : ∀ w, assign (.Subscript x y p) X.env w = (do
          let ov ← holding [w] (eval x X.env)
          let iv ← holding [w, ov] (eval y X.env)
          standAt p
          holding [w, ov, iv] (setItem ov iv w)
          release [w, ov, iv] []) := by
        intro w
        cases y with
        | Slice lo up step sp =>
          cases step with
          | none => cases h1
          | some z => rfl
        | _ => rfl
      have sw : swapsWithSole [.Subscript x y p] v pos.line X.env = pure false := by cases v <;> rfl
      have ss : swappedStores [.Subscript x y p] v X.env = pure none := by cases v <;> rfl
      refine PS.imp (ps_asg (okE e v c X A E hX.e tk h4).1 (pg_sub (okE o x c X A E hX.e tk h2).1 (okE k y c X A E hX.e tk h3).1 (set_six hX.e.room) ha) sw ss) fun D σ H ⟨ρ, M, R, q⟩ => ?_
      unfold sS at q
      refine one (mE e E) R q fun dv v M1 H1 q r1 R1 S1 => two (mE o E) (mE k E) R1 q fun d2 d3 v2 v3 M3 H3 ⟨a, ea, q⟩ r2 r3 R3 S3 => ?_
      subst ea
      exact ⟨A, ρ, σ, M3, a, d3, dv, R3, r2, r3, r1.mono S3, six1_mono (fun M' k H' R' S' => k σ H' R' ((S1.trans S3).trans S')) q⟩
    · cases h
  | .exp e, st, c, X, A, E, hX, tk, h => by
    unfold chkS at h
    split at h
    · obtain ⟨h1, h2⟩ := and2 h
      refine PS.imp (ps_expr (okE e _ c X A E hX.e tk h2).1 (swaps_no h1)) fun D σ H ⟨ρ, M, R, q⟩ => ?_
      unfold sS at q
      exact one (mE e E) R q fun d v M1 H1 k r R1 S => k σ H1 R1 S
    · cases h
  | .app o e, st, c, X, A, E, hX, tk, h => by
    unfold chkS at h
    split at h
    · rename_i x m apos y cpos pos
      obtain ⟨h1, h2⟩ := and2 h
      obtain ⟨h2, h3⟩ := and2 h2
      obtain ⟨h3, h4⟩ := and2 h3
      obtain ⟨h4, h5⟩ := and2 h4
      obtain ⟨h5, h6⟩ := and2 h5
      have em := of_decide_eq_true h1
      subst em
      have es : starEach [y] X.env = [(false, eval y X.env)] := by rw [star_cons h4]; rfl
      refine PS.imp (ps_expr (pe_bm PySem.F.plainAttrs_list PySem.F.slot_list_append PySem.F.type_list_append mt_append (okE o x c X A E hX.e tk h5).1 (pa_cons (okE e y c X A E hX.e tk h6).1 pa_nil (star_cons h4)) (base_of h3) (by rw [es]; rfl) h2 (star_cons h4) rfl)) fun D σ H ⟨ρ, M, R, q⟩ => ?_
      unfold sS at q
      refine one (mE o E) R q fun d v M1 H1 ⟨a, ea, ⟨xs, g1⟩, q⟩ r R1 S => ?_
      subst ea
      cases r
      obtain ⟨vs, e1, e2⟩ := R1.mem.obj a _ g1
      refine ⟨.inl ⟨rfl, vs, .inl (.inl e1)⟩, ?_⟩
      refine one (mE e E) R1 q fun d2 v2 M2 H2 ⟨ys, g2, g3, k⟩ r2 R2 S2 => ?_
      obtain ⟨ws, f1, f2⟩ := R2.mem.obj a _ g2
      exact ⟨a, ws, v2, rfl, rfl, f1, by rw [f2.length]; exact g3, k σ _ (R2.writeL g2 (f2.append (.cons r2 .nil))) ((S.trans S2).trans (Stp.write g2))⟩
    · cases h
  | .ret e, st, c, X, A, E, hX, tk, h => by
    unfold chkS at h
    split at h
    · refine PS.imp (ps_ret (okE e _ c X A E hX.e tk h).1) fun D σ H ⟨ρ, M, R, q⟩ => ?_
      unfold sS at q
      exact one (mE e E) R q fun d v M1 H1 k r R1 S => k v ρ σ H1 r R1
    · cases h
  | .retN, st, c, X, A, E, hX, tk, h => by
    unfold chkS at h
    split at h
    · exact PS.imp ps_retN fun D σ H ⟨ρ, M, R, q⟩ => by unfold sS at q; exact q .non ρ σ H .non R
    · cases h
  | .pass, st, c, X, A, E, hX, tk, h => by
    unfold chkS at h
    split at h
    · exact PS.imp ps_pass fun D σ H ⟨ρ, M, R, q⟩ => by unfold sS at q; exact q σ H R Stp.refl
    · cases h
  | .brk, st, c, X, A, E, hX, tk, h => by
    unfold chkS at h
    split at h
    · exact PS.imp ps_break fun D σ H ⟨ρ, M, R, q⟩ => by unfold sS at q; exact q σ H R Stp.refl
    · cases h
  | .cont, st, c, X, A, E, hX, tk, h => by
    unfold chkS at h
    split at h
    · exact PS.imp ps_continue fun D σ H ⟨ρ, M, R, q⟩ => by unfold sS at q; exact q σ H R Stp.refl
    · cases h
  | .never, st, c, X, A, E, hX, tk, h => PS.imp ps_never fun D σ H ⟨ρ, M, R, q⟩ => by unfold sS at q; exact q
  | .ite e a b, st, c, X, A, E, hX, tk, h => by
    unfold chkS at h
    split at h
    · obtain ⟨h1, h2⟩ := and2 h
      obtain ⟨h2, h3⟩ := and2 h2
      refine PS.imp (ps_if (okE e _ c X A E hX.e tk h1).2 (okSs a _ c X A E hX tk h2) (okSs b _ c X A E hX tk h3)) fun D σ H ⟨ρ, M, R, q⟩ => ?_
      unfold sS at q
      refine ⟨ρ, M, R, sE_mono e (fun x M1 ⟨k, e, q⟩ => ⟨k, e, fun H1 R1 S => ?_⟩) (fun _ _ z => z) q⟩
      cases k with
      | true => exact ⟨ρ, M1, R1, sSs_mono a (sc_step S) (fun _ _ z => z) q⟩
      | false => exact ⟨ρ, M1, R1, sSs_mono b (sc_step S) (fun _ _ z => z) q⟩
    · cases h
  | .for t it body, st, c, X, A, E, hX, tk, h => by
    unfold chkS at h
    split at h
    · rename_i tg iter x pos
      obtain ⟨h1, h2⟩ := and2 h
      obtain ⟨h2, h3⟩ := and2 h2
      split at h2
      · rename_i own how
        have S := sto_of hX.e.N hX.e.sn hX.fn h2
        have set : ∀ x, foldedSetIterable iter X.env x = pure x := by
          intro x
          cases iter <;> first | rfl | (cases it <;> (unfold chkI at h1; first | (cases h1; done) | (exact absurd (and2 h1).1 (by decide))))
        refine PS.imp (ps_for hX.own hX.e.calm (okI it iter c X A E hX.e tk h1 tg) (tg_pg hX.e.nd hX.e.calm how S) (okSs body x c X A E hX tk h3) set) fun D σ H ⟨ρ, M, R, q⟩ => ?_
        unfold sS at q
        refine ⟨ρ, M, R, sI_mono it (fun src M1 k kp J H1 jb R1 S1 => ?_) (fun _ _ z => z) q⟩
        refine ⟨fun i m σ' H' => m = src.xs.length - i ∧ i ≤ src.xs.length ∧ ∃ ρ' M', RelS X.K A ρ' M' σ' H' ∧ JB X.K A.Z M' H' J src ∧ src.keep M' ∧ Stp M H M' H' ∧ forL src.keep (tgW t) (fun ρ1 M2 C2 => sSs Γ gs body ρ1 M2 C2 E) (src.xs.drop i) ρ' M' (scK X.K A M H D),
          ⟨src.xs.length, rfl, Nat.zero_le _, ρ, M1, R1, jb, kp, S1, k⟩, ?_⟩
        rintro i m σ' H' ⟨rfl, hi, ρ', M', R', jb', kp', S', k'⟩
        by_cases lt : i < src.xs.length
        · obtain ⟨go, yl⟩ := jb'.go R' kp' lt
          refine .inr ⟨go, fun σ2 H2 => i + 1 ≤ src.xs.length ∧ ∃ ρ' M', RelS X.K A ρ' M' σ2 H2 ∧ JB X.K A.Z M' H2 J src ∧ src.keep M' ∧ Stp M H M' H2 ∧ forL src.keep (tgW t) (fun ρ1 M2 C2 => sSs Γ gs body ρ1 M2 C2 E) (src.xs.drop (i + 1)) ρ' M' (scK X.K A M H D), fun σ2 H2 n => ⟨src.xs.length - (i + 1), by omega, rfl, n⟩, fun x H2 y => ?_⟩
          obtain ⟨e, d, hd, rd⟩ := yl x H2 y
          subst e
          rw [List.drop_eq_getElem_cons lt] at k'
          have ed : src.xs[i] = d := by rw [List.getElem?_eq_getElem lt] at hd; exact Option.some.inj hd
          rw [ed] at k'
          unfold forL at k'
          refine gT_of rd R' k' fun ρ2 σ2 R2 k2 _ => ⟨ρ2, M', R2, sSs_mono body ?_ (fun _ _ z => z) k2⟩
          exact ⟨fun ρ3 M3 ⟨kp3, k3⟩ σ3 H3 R3 S3 => ⟨lt, ρ3, M3, R3, jb'.mono S3, kp3, S'.trans S3, k3⟩, fun _ _ z => z, fun ρ3 M3 k3 σ3 H3 R3 S3 => k3 σ3 H3 R3 (S'.trans S3), fun ρ3 M3 ⟨kp3, k3⟩ σ3 H3 R3 S3 => ⟨lt, ρ3, M3, R3, jb'.mono S3, kp3, S'.trans S3, k3⟩⟩
        · have e : i = src.xs.length := by omega
          subst e
          rw [List.drop_length] at k'
          unfold forL at k'
          exact .inl ⟨jb'.stop R' kp', k' σ' H' R' S'⟩
      · cases h2
    · cases h
  | .while e body, st, c, X, A, E, hX, tk, h => by
    unfold chkS at h
    split at h
    · obtain ⟨h1, h2⟩ := and2 h
      refine PS.imp (ps_while hX.own (okE e _ c X A E hX.e tk h1).2 (okSs body _ c X A E hX tk h2)) fun D σ H ⟨ρ, M, R, q⟩ => ?_
      unfold sS at q
      obtain ⟨W, ⟨m0, w0⟩, turn⟩ := q
      refine ⟨fun m σ' H' => ∃ ρ' M', RelS X.K A ρ' M' σ' H' ∧ Stp M H M' H' ∧ W m ρ' M', ⟨m0, ρ, M, R, Stp.refl, w0⟩, ?_⟩
      rintro m σ' H' ⟨ρ', M', R', S', w⟩
      refine ⟨ρ', M', R', sE_mono e (fun x M1 ⟨k, e, q⟩ => ⟨k, e, fun H1 R1 S1 => ?_⟩) (fun _ _ z => z) (turn m ρ' M' w)⟩
      cases k with
      | true =>
        refine ⟨fun σ2 H2 => ∃ m', m' < m ∧ ∃ ρ' M', RelS X.K A ρ' M' σ2 H2 ∧ Stp M H M' H2 ∧ W m' ρ' M', fun σ2 H2 z => z, ρ', M1, R1, sSs_mono body ?_ (fun _ _ z => z) q⟩
        have SS := S'.trans S1
        exact ⟨fun ρ3 M3 ⟨m', l, w'⟩ σ3 H3 R3 S3 => ⟨m', l, ρ3, M3, R3, SS.trans S3, w'⟩, fun _ _ z => z, fun ρ3 M3 k3 σ3 H3 R3 S3 => k3 σ3 H3 R3 (SS.trans S3), fun ρ3 M3 ⟨m', l, w'⟩ σ3 H3 R3 S3 => ⟨m', l, ρ3, M3, R3, SS.trans S3, w'⟩⟩
      | false => exact q σ' H1 R1 (S'.trans S1)
    · cases h
theorem okSs : ∀ (ir : ISs) (st : List Stmt) (c : Cc) (X : Cx) (A : An) (E : Exn → Mem → Prop), CtxS c Γ gs ca X → TakesE ca X A E → chkSs c ir st = true → PSs X st (tss X.K A fun ρ M C => sSs Γ gs ir ρ M C E)
  | .nil, st, c, X, A, E, hX, tk, h => by
    unfold chkSs at h
    split at h
    · exact PSs.imp pss_nil fun D σ H ⟨ρ, M, R, q⟩ => by unfold sSs at q; exact q σ H R Stp.refl
    · cases h
  | .cons s ss, st, c, X, A, E, hX, tk, h => by
    unfold chkSs at h
    split at h
    · obtain ⟨h1, h2⟩ := and2 h
      refine PSs.imp (pss_cons (okS s _ c X A E hX tk h1) (okSs ss _ c X A E hX tk h2)) fun D σ H ⟨ρ, M, R, q⟩ => ?_
      unfold sSs at q
      refine ⟨ρ, M, R, sS_mono s ?_ (fun _ _ z => z) q⟩
      exact ⟨fun ρ' M' q σ' H' R' S' => ⟨ρ', M', R', sSs_mono ss (sc_step S') (fun _ _ z => z) q⟩, fun _ _ z => z, fun _ _ z => z, fun _ _ z => z⟩
    · cases h
end
end
end DL
set_option Elab.async false
set_option linter.all false
set_option maxRecDepth 100000
set_option maxHeartbeats 4000000
namespace DL
open PySem PySem.Spec PyProof.Rows L2
/-! ### what a def hands back: what it made is frozen -/
mutual
inductive Frz (M M0 : Mem) : D → D → Prop
  | non : Frz M M0 .non .non
  | bl (b : Bool) : Frz M M0 (.bl b) (.bl b)
  | int (b : Int) : Frz M M0 (.int b) (.int b)
  | str (b : Str) : Frz M M0 (.str b) (.str b)
  | tup {xs ys : List D} : Frzs M M0 xs ys → Frz M M0 (.tup xs) (.tup ys)
  | lst {xs ys : List D} : Frzs M M0 xs ys → Frz M M0 (.lst xs) (.lst ys)
  | scr {xs ys : List D} : Frzs M M0 xs ys → Frz M M0 (.scr xs) (.scr ys)
  | ref {a : Addr} {o : MO} : M0 a = some o → Frz M M0 (.ref a) (.ref a)
  | frz {a : Addr} {xs ys : List D} : M0 a = none → M a = some (.lst xs) → Frzs M M0 xs ys → Frz M M0 (.ref a) (.lst ys)
  | exn (c : Nat) (a : Addr) : Frz M M0 (.exn c a) (.exn c a)
inductive Frzs (M M0 : Mem) : List D → List D → Prop
  | nil : Frzs M M0 [] []
  | cons {x y : D} {xs ys : List D} : Frz M M0 x y → Frzs M M0 xs ys → Frzs M M0 (x :: xs) (y :: ys)
end
abbrev FrzK {κ : Type} (M M0 : Mem) : List (κ × D) → List (κ × D) → Prop := Paired fun p q => p.1 = q.1 ∧ Frz M M0 p.2 q.2
inductive FrzO (M M0 : Mem) : MO → MO → Prop
  | lst {xs ys : List D} : Frzs M M0 xs ys → FrzO M M0 (.lst xs) (.lst ys)
  | dK {xs ys : List (Key × D)} : FrzK M M0 xs ys → FrzO M M0 (.dK xs) (.dK ys)
  | dT {xs ys : List (List Key × D)} : FrzK M M0 xs ys → FrzO M M0 (.dT xs) (.dT ys)
  | xd {xs ys : List (Str × D)} : FrzK M M0 xs ys → FrzO M M0 (.xd xs) (.xd ys)
/-- of the store M behind a def that began at M1, M0 is kept -/
structure Forget (M1 M M0 : Mem) : Prop where
  dom : ∀ a o, M1 a = some o → ∃ o', M0 a = some o'
  obj : ∀ a o0, M0 a = some o0 → ∃ o, M a = some o ∧ FrzO M M0 o o0
def Drop (M1 M : Mem) (d : D) (Q : D → Mem → Prop) : Prop := ∃ M0 d0, Forget M1 M M0 ∧ Frz M M0 d d0 ∧ Q d0 M0
def DropX (M1 M : Mem) (x : Exn) (E : Exn → Mem → Prop) : Prop := ∃ M0 fs0, Forget M1 M M0 ∧ FrzK M M0 x.fs fs0 ∧ E ⟨x.c, fs0⟩ M0
section
variable {K : PySem.W.Frag} {Z : Addr → Prop} {M1 M M0 : Mem} {H : Hp}
theorem Forget.none (f : Forget M1 M M0) {a : Addr} (h : M a = none) : M0 a = none := by
  cases q : M0 a with
  | none => rfl
  | some o =>
    obtain ⟨u, e, _⟩ := f.obj a o q
    rw [h] at e; cases e
mutual
theorem Rep.frz (f : Forget M1 M M0) (m : MemOk K Z M H) : ∀ {d d0 : D} {v : V}, Frz M M0 d d0 → Rep K Z M H v d → Rep K Z M0 H v d0
  | _, _, _, .non, .non => .non
  | _, _, _, .bl b, .bl _ => .bl b
  | _, _, _, .int b, .int _ => .int b
  | _, _, _, .str b, .str _ => .str b
  | _, _, _, .tup q, .tup h r => .tup (h.elim (fun h => .inl ⟨h.1, f.none h.2⟩) .inr) (Reps.frz f m q r)
  | _, _, _, .lst q, .lst h n z r => .lst h (f.none n) z (Reps.frz f m q r)
  | _, _, _, .scr q, .scr h r => .scr (h.elim (fun h => .inl ⟨h.1, f.none h.2.1, h.2.2⟩) .inr) (Reps.frz f m q r)
  | _, _, _, .ref q, .ref h => .ref q
  | _, _, _, .frz n q r, .ref h => by
    obtain ⟨vs, g1, g2⟩ := m.obj _ _ q
    exact .lst g1 n (m.nz _ _ q) (Reps.frz f m r g2)
  | _, _, _, .exn c a, .exn _ _ => .exn c a
theorem Reps.frz (f : Forget M1 M M0) (m : MemOk K Z M H) : ∀ {ds ds0 : List D} {vs : List V}, Frzs M M0 ds ds0 → Reps K Z M H vs ds → Reps K Z M0 H vs ds0
  | _, _, _, .nil, .nil => .nil
  | _, _, _, .cons a b, .cons r s => .cons (Rep.frz f m a r) (Reps.frz f m b s)
end
theorem KRep.frz {κ : Type} (f : Forget M1 M M0) (m : MemOk K Z M H) : ∀ {ds ds0 : List (κ × D)} {vs : List (κ × V)}, FrzK M M0 ds ds0 → KRep K Z M H vs ds → KRep K Z M0 H vs ds0
  | _, _, _, .nil, .nil => .nil
  | _, _, _, .cons a b, .cons r s => .cons ⟨r.1.trans a.1, Rep.frz f m a.2 r.2⟩ (KRep.frz f m b s)
theorem MemOk.frz (f : Forget M1 M M0) (m : MemOk K Z M H) : MemOk K Z M0 H where
  obj := fun a o0 e => by
    obtain ⟨o, e1, q⟩ := f.obj a o0 e
    have h := m.obj a o e1
    cases q with
    | lst q => obtain ⟨vs, g1, g2⟩ := h; exact ⟨vs, g1, g2.frz f m q⟩
    | dK q => obtain ⟨vs, g1, g2⟩ := h; exact ⟨vs, g1, g2.frz f m q⟩
    | dT q => obtain ⟨vs, g1, g2⟩ := h; exact ⟨vs, g1, g2.frz f m q⟩
    | xd q => obtain ⟨vs, g1, g2⟩ := h; exact ⟨vs, g1, g2.frz f m q⟩
  nz := fun a o0 e => let ⟨o, e1, _⟩ := f.obj a o0 e; m.nz a o e1
  zt := m.zt
theorem Stp.frz {H1 : Hp} (f : Forget M1 M M0) (s : Stp M1 H1 M H) : Stp M1 H1 M0 H :=
  ⟨s.keep, fun a o e n => f.none (s.free a o e n), f.dom⟩
end
/-! ### closed data: its references stand in the store -/
mutual
inductive Cl (M : Mem) : D → Prop
  | non : Cl M .non
  | bl (b : Bool) : Cl M (.bl b)
  | int (b : Int) : Cl M (.int b)
  | str (b : Str) : Cl M (.str b)
  | tup {xs : List D} : Cls M xs → Cl M (.tup xs)
  | lst {xs : List D} : Cls M xs → Cl M (.lst xs)
  | scr {xs : List D} : Cls M xs → Cl M (.scr xs)
  | ref {a : Addr} {o : MO} : M a = some o → Cl M (.ref a)
  | exn (c : Nat) (a : Addr) : Cl M (.exn c a)
inductive Cls (M : Mem) : List D → Prop
  | nil : Cls M []
  | cons {x : D} {xs : List D} : Cl M x → Cls M xs → Cls M (x :: xs)
end
def ClO (M : Mem) : MO → Prop
  | .lst xs => Cls M xs
  | .dK xs => ∀ p ∈ xs, Cl M p.2
  | .dT xs => ∀ p ∈ xs, Cl M p.2
  | .xd xs => ∀ p ∈ xs, Cl M p.2
def ClM (M : Mem) : Prop := ∀ a o, M a = some o → ClO M o
section
variable {K : PySem.W.Frag} {Z : Addr → Prop} {M M0 : Mem} {H : Hp}
mutual
theorem Rep.cl : ∀ {v : V} {d : D}, Rep K Z M H v d → Cl M d
  | _, _, .non => .non
  | _, _, .bl b => .bl b
  | _, _, .int i => .int i
  | _, _, .str x => .str x
  | _, _, .tup _ r => .tup (Reps.cl r)
  | _, _, .lst _ _ _ r => .lst (Reps.cl r)
  | _, _, .scr _ r => .scr (Reps.cl r)
  | _, _, .ref h => .ref h
  | _, _, .exn c a => .exn c a
theorem Reps.cl : ∀ {vs : List V} {ds : List D}, Reps K Z M H vs ds → Cls M ds
  | _, _, .nil => .nil
  | _, _, .cons a r => .cons (Rep.cl a) (Reps.cl r)
end
theorem KRep.cl {κ : Type} : ∀ {vs : List (κ × V)} {ds : List (κ × D)}, KRep K Z M H vs ds → ∀ p ∈ ds, Cl M p.2
  | _, _, .nil, p, m => by cases m
  | _, _, .cons a r, p, m => by
    rcases List.mem_cons.mp m with rfl | m
    · exact a.2.cl
    · exact KRep.cl r p m
theorem MemOk.cl (m : MemOk K Z M H) : ClM M := fun a o e => by
  have h := m.obj a o e
  cases o with
  | lst q => obtain ⟨vs, g1, g2⟩ := h; exact g2.cl
  | dK q => obtain ⟨vs, g1, g2⟩ := h; exact KRep.cl g2
  | dT q => obtain ⟨vs, g1, g2⟩ := h; exact KRep.cl g2
  | xd q => obtain ⟨vs, g1, g2⟩ := h; exact KRep.cl g2
mutual
theorem Cl.frz : ∀ {d : D}, Cl M0 d → Frz M M0 d d
  | _, .non => .non
  | _, .bl b => .bl b
  | _, .int i => .int i
  | _, .str x => .str x
  | _, .tup r => .tup (Cls.frz r)
  | _, .lst r => .lst (Cls.frz r)
  | _, .scr r => .scr (Cls.frz r)
  | _, .ref h => .ref h
  | _, .exn c a => .exn c a
theorem Cls.frz : ∀ {ds : List D}, Cls M0 ds → Frzs M M0 ds ds
  | _, .nil => .nil
  | _, .cons a r => .cons (Cl.frz a) (Cls.frz r)
end
theorem Cls.frzK {κ : Type} : ∀ {ds : List (κ × D)}, (∀ p ∈ ds, Cl M0 p.2) → FrzK M M0 ds ds
  | [], _ => .nil
  | p :: r, h => .cons ⟨rfl, (h p (List.mem_cons_self ..)).frz⟩ (Cls.frzK fun q m => h q (List.mem_cons_of_mem _ m))
theorem ClO.frz {o : MO} (h : ClO M0 o) : FrzO M M0 o o := by
  cases o with
  | lst q => exact .lst (Cls.frz h)
  | dK q => exact .dK (Cls.frzK h)
  | dT q => exact .dT (Cls.frzK h)
  | xd q => exact .xd (Cls.frzK h)
end
/-- a def's anchor -/
def An.fn (Z : Addr → Prop) (M : Mem) (H : Hp) : An := ⟨Z, fun M' H' => Stp M H M' H', fun a b => a.trans b⟩
def startE (n : Nat) (ds : List D) : Env := ds.map some ++ List.replicate (n - ds.length) none
def fnSC (M : Mem) (Q : D → Mem → Prop) : SC where
  nx := fun _ M' => Drop M M' .non Q
  rt := fun d M' => Drop M M' d Q
  bk := fun _ _ => False
  ct := fun _ _ => False
/-- THE WORK of a def: that its body does what the promise says -/
def BodyOk (Γ : List DSp) (gs : List D) (n : Nat) (ir : ISs) (sp : DSp) : Prop := ∀ ds M Q E, ClM M → Cls M ds → sp.wp ds M Q E → sSs Γ gs ir (startE n ds) M (fnSC M Q) (fun x M' => DropX M M' x E)
theorem start_rel {K : PySem.W.Frag} {Z : Addr → Prop} {M : Mem} {H : Hp} {N : List Str} {vs : List V} {ds : List D} (r : Reps K Z M H vs ds) (m : MemOk K Z M H) : RelS K (An.fn Z M H) (startE N.length ds) M (L2.start N vs) H where
  slot := fun i d e => by
    unfold startE at e
    unfold L2.start
    by_cases h : i < ds.length
    · rw [List.getElem?_append_left (by rw [List.length_map]; exact h), List.getElem?_map] at e
      cases q : ds[i]? with
      | none => rw [q] at e; cases e
      | some d' =>
        rw [q] at e
        cases e
        obtain ⟨v, g1, g2⟩ := r.get q
        refine ⟨v, ?_, g2⟩
        rw [List.getElem?_append_left (by rw [List.length_map, r.length]; exact h), List.getElem?_map, g1]
        rfl
    · rw [List.getElem?_append_right (by rw [List.length_map]; omega), List.getElem?_replicate] at e
      split at e <;> cases e
  len := by
    unfold startE L2.start
    simp [r.length]
  mem := m
  stp := Stp.refl
section
variable {P : Program} {w : World} {K : PySem.W.Frag} {mg : Str → Option Value} {base : Heap} {ca : Nat → Addr}
/-- what the top must have left for a program's defs -/
structure Top (K : PySem.W.Frag) (mg : Str → Option Value) (gcd : Bool) (gl : List Str) (gs : List D) : Prop where
  blt : ∀ x ∈ bltNames, mg x = none
  gcd : gcd = true → mg "gcd" = some (.builtin "math.gcd")
  ng : gl.length = gs.length
  gl : ∀ (i : Nat) (x : Str) (d : D), gl[i]? = some x → gs[i]? = some d → ∃ u v, mg x = some u ∧ RelV v u ∧ ∀ Z M H, Rep K Z M H v d
/-- a def that keeps a promise -/
def FnD (P : Program) (w : World) (K : PySem.W.Frag) (mg : Str → Option Value) (base : Heap) (ca : Nat → Addr) (x : Str) (k : Nat) (sp : DSp) : Prop :=
  ∃ f fd ps, mg x = some (.ref f) ∧ PySem.W.keepIn K (.ref f) = true ∧ L2.Binds K fd ps [] ∧ ps.length = sp.ar ∧ FnOk P w K mg base (L2.CX P w) k f fd ps (toSp K ca sp)
theorem FnD.mono {x : Str} {k j : Nat} {sp : DSp} (h : FnD P w K mg base ca x k sp) (l : k ≤ j) : FnD P w K mg base ca x j sp :=
  let ⟨f, fd, ps, a, b, c, d, e⟩ := h
  ⟨f, fd, ps, a, b, c, d, e.mono l⟩
/-- the table of a def's callees: the names, their promises, all at most at level k -/
inductive FnT (P : Program) (w : World) (K : PySem.W.Frag) (mg : Str → Option Value) (base : Heap) (ca : Nat → Addr) (k : Nat) : List Str → List DSp → Prop
  | nil : FnT P w K mg base ca k [] []
  | cons {x : Str} {sp : DSp} {xs : List Str} {sps : List DSp} {j : Nat} : FnD P w K mg base ca x j sp → j ≤ k → FnT P w K mg base ca k xs sps → FnT P w K mg base ca k (x :: xs) (sp :: sps)
theorem FnT.len {k : Nat} : ∀ {xs : List Str} {sps : List DSp}, FnT P w K mg base ca k xs sps → xs.length = sps.length
  | _, _, .nil => rfl
  | _, _, .cons _ _ t => congrArg (· + 1) t.len
theorem FnT.get {k : Nat} : ∀ {xs : List Str} {sps : List DSp} {i : Nat} {x : Str} {sp : DSp}, FnT P w K mg base ca k xs sps → xs[i]? = some x → sps[i]? = some sp → FnD P w K mg base ca x k sp
  | _, _, _, _, _, .nil, e, _ => by simp at e
  | _, _, 0, _, _, .cons h l _, e1, e2 => by simp at e1 e2; subst e1 e2; exact h.mono l
  | _, _, i + 1, _, _, .cons _ _ t, e1, e2 => t.get (i := i) (by simpa using e1) (by simpa using e2)
/-- THE RULE: a def's text, its IR, its body's work -/
theorem fnok_of {x qual : Str} {st : Stmt} {f : Addr} {fd : FuncData} {N ps : List Str} {k : Nat} {sp : DSp} {gcd : Bool} {gl : List Str} {gs : List D} {fns : List Str} {Γ : List DSp} {ir : ISs} (F : Fun K x qual st f fd) (S : FnScope N ps (defScope st)) (har : ps.length = sp.ar)
    (T : Top K mg gcd gl gs) (ft : FnT P w K mg base ca k fns Γ) (chk : chkSs ⟨N, (defScope st).names, fns, gl, gcd⟩ ir (defBody st) = true) (body : BodyOk Γ gs N.length ir sp) : FnOk P w K mg base (L2.CX P w) (k + 1) f fd ps (toSp K ca sp) := by
  refine F.okX S (fun vs H Q E ⟨Z, ds, M, r, m, h⟩ => ?_) (fun cdv A outer s H vs Q E hr ⟨Z, ds, M, r, m, h⟩ => ?_)
  · rw [r.length, sp.len h, har]
  · have cx : CtxS ⟨N, (defScope st).names, fns, gl, gcd⟩ Γ gs ca (cxOf (L2.CX P w) P w K mg base N qual (defScope st) f cdv A outer s H E) := by
      refine ⟨⟨rfl, S.nd, rfl, S.kind, rfl, ?_, ?_, ?_, T.blt, ft.len, T.ng, T.gcd⟩, ?_, fun _ => rfl⟩
      · have := hr.un
        show (A.deeper _).units + 65 < cLine
        omega
      · intro i y sp' e1 e2
        obtain ⟨f', fd', ps', a, b, c, d, e⟩ := ft.get e1 e2
        exact ⟨f', fd', ps', k, a, b, c, hr, e⟩
      · intro i y d e1 e2
        exact T.gl i y d e1 e2
      · exact passes_of rfl
    have tk : TakesE ca (cxOf (L2.CX P w) P w K mg base N qual (defScope st) f cdv A outer s H E) (An.fn Z M H) (fun x M' => DropX M M' x fun x M' => ∀ cls dx H', ExRep ca K Z M' H' cls dx x → MemOk K Z M' H' → Stp M H M' H' → E cls dx H') := by
      refine (takes_of rfl rfl rfl rfl).imp ?_
      rintro cls d σ H' ⟨ρ', M', xn, R', ⟨e1, dd, fs, e2, e3, e4, e5⟩, M0, fs0, fg, fk, z⟩
      refine z cls d H' ⟨e1, dd, fs, e2, e3, fg.none e4, KRep.frz fg R'.mem fk e5⟩ (R'.mem.frz fg) (Stp.frz fg R'.stp)
    refine ⟨_, okSs ir (defBody st) _ _ (An.fn Z M H) _ cx tk chk, startE N.length ds, M, start_rel r m, ?_⟩
    refine sSs_mono ir ?_ (fun _ _ z => z) (body ds M _ _ m.cl r.cl h)
    refine ⟨fun ρ' M' q σ' H' R' S' => ?_, fun d M' q v ρ' σ' H' rv R' => ?_, fun _ _ z => z.elim, fun _ _ z => z.elim⟩
    · obtain ⟨M0, d0, fg, fz, z⟩ := q
      cases fz
      exact z .non H' .non (R'.mem.frz fg) (Stp.frz fg R'.stp)
    · obtain ⟨M0, d0, fg, fz, z⟩ := q
      exact z v H' (rv.frz fg R'.mem fz) (R'.mem.frz fg) (Stp.frz fg R'.stp)
theorem fnd_of {x qual : Str} {st : Stmt} {f : Addr} {fd : FuncData} {N ps : List Str} {k : Nat} {sp : DSp} {gcd : Bool} {gl : List Str} {gs : List D} {fns : List Str} {Γ : List DSp} {ir : ISs} (F : Fun K x qual st f fd) (hm : mg x = some (.ref f)) (S : FnScope N ps (defScope st)) (hb : L2.Binds K fd ps []) (har : ps.length = sp.ar)
    (T : Top K mg gcd gl gs) (ft : FnT P w K mg base ca k fns Γ) (chk : chkSs ⟨N, (defScope st).names, fns, gl, gcd⟩ ir (defBody st) = true) (body : BodyOk Γ gs N.length ir sp) : FnD P w K mg base ca x (k + 1) sp :=
  ⟨f, fd, ps, hm, F.kp, hb, har, fnok_of F S har T ft chk body⟩
/-- a promise that nobody may ask for -/
theorem fnd_no {x qual : Str} {st : Stmt} {f : Addr} {fd : FuncData} {ps : List Str} {k : Nat} {sp : DSp} (F : Fun K x qual st f fd) (hm : mg x = some (.ref f)) (hb : L2.Binds K fd ps []) (har : ps.length = sp.ar) (no : ∀ ds M Q E, ¬ sp.wp ds M Q E) : FnD P w K mg base ca x k sp :=
  ⟨f, fd, ps, hm, F.kp, hb, har, ⟨fun _ _ _ _ ⟨_, _, _, _, _, h⟩ => (no _ _ _ _ h).elim, fun _ _ _ _ _ _ _ _ _ _ _ _ _ ⟨_, _, _, _, _, h⟩ => (no _ _ _ _ h).elim⟩⟩
/-- a def's arguments bind -/
theorem fun_bindsA {x qual : Str} {st : Stmt} {f : Addr} {fd : FuncData} {ps : List Str} (F : Fun K x qual st f fd)
    (h : ∀ (kV doc pm : Value) (an : Option Addr) (cdv ct : Value) (us : List Value), us.length = ps.length → bindArgs (PySem.W.fnOf x qual (defArgs st) (defBody st) (defScope st) .none kV doc pm an cdv ct) ⟨us, []⟩ = pure (ps.zip us)) (s : Shared) (us : List Value) (hl : us.length = ps.length) : BindsTo s fd ⟨us, []⟩ (ps.zip us) := by
  obtain ⟨oc, od, kV, doc, pm, an, cdv, ct, osl, rfl, lk, hcd⟩ := F.ex
  exact .of_eq (h kV doc pm an cdv ct us hl)
end
end DL
set_option Elab.async false
set_option linter.all false
set_option maxRecDepth 100000
set_option maxHeartbeats 4000000
namespace DL
open PySem PySem.Spec PyProof.Rows L2
def ddOf (x : Str) (st : Stmt) : He.DefD := ⟨(x, none), x, x, defArgs st, defBody st, defScope st, [], []⟩
section
variable {K : PySem.W.Frag} {mg : Str → Option Value} {h : Heap} {fa : List He.Fa} {fn : List He.DefD}
theorem fun_of (X : K.In h) (G : h.Ns mainGlobals mg) (c : He.SaysD fa fn K) {x : Str} {st : Stmt} (hd : ddOf x st ∈ fn) (hf : He.Fa.glo x ∈ fa) : ∃ f fd, Fun K x x st f fd ∧ mg x = some (.ref f) := by
  obtain ⟨fd, F⟩ := c.defs hd
  refine ⟨_, fd, ?_, He.glo_ok X G (c.facts hf)⟩
  obtain ⟨oc, od, dV, kV, doc, pm, an, cdv, ct, osl, e1, e2, e3, e4, e5⟩ := F.ex
  have ev : dV = .none := by
    rcases e4 with ⟨_, e⟩ | ⟨e, _⟩
    · exact e
    · exact absurd rfl e
  subst ev
  exact ⟨⟨oc, od, kV, doc, pm, an, cdv, ct, osl, e1, e2, e3⟩, F.kp⟩
theorem free_of (X : K.In h) (G : h.Ns mainGlobals mg) (c : He.SaysD fa fn K) {x : Str} (hf : He.Fa.free x ∈ fa) : mg x = none := He.free_ok X G (c.facts hf)
end
/-- no exception leaves: the law's own call -/
theorem fn_cx0 {P : Program} {w : World} {K : PySem.W.Frag} {mg : Str → Option Value} {base : Heap} {k : Nat} {f : Addr} {fd : FuncData} {ps : List Str} {sp : Sp} (F : FnOk P w K mg base (L2.CX P w) k f fd ps sp) :
    FnOk P w K mg base CX0 k f fd ps (fun vs H Q _ => sp vs H Q E0) where
  len := fun vs H Q E h => F.len vs H Q _ h
  run := fun A outer s H args us vs Q E hr e0 hb r h => by
    refine codeAny_mono (F.run A outer s H args us vs Q E0 hr e0 hb r h) fun x s' q => ?_
    cases x with
    | ok y => cases y <;> exact q
    | error e =>
      obtain ⟨_, _, _, _, _, _, _, _, _, _, _, _, z⟩ := q
      exact z.elim
/-- the law's promise -/
def spLaw : DSp where
  ar := 1
  wp := fun ds M Q _ => ∃ ns : List Int, ds = [.scr (ns.map D.int)] ∧ ns.length ≤ 63 ∧ (M = fun _ => none) ∧ Q (.bl true) M
  mono := fun hQ _ ⟨ns, h1, h2, h3, h4⟩ => ⟨ns, h1, h2, h3, hQ _ _ h4⟩
  len := fun ⟨ns, h, _⟩ => by rw [h]; rfl
theorem law_sp {K : PySem.W.Frag} {ca : Nat → Addr} {H : Hp} {a : Addr} {ns : List Int} (hl : ns.length ≤ 63) (hS : SqL K H a (ns.map V.int)) : toSp K ca spLaw [.ref a] H (fun v _ => v = .bl true) E0 := by
  refine ⟨fun _ => False, [.scr (ns.map D.int)], fun _ => none, .cons (.scr ?_ (Reps.of_ints ns)) .nil, ⟨fun a o e => by (cases e), fun a o e => by (cases e), fun a z => z.elim⟩, ns, rfl, hl, rfl, fun v H' r m s => ?_⟩
  · rcases hS with h | h
    · exact .inl ⟨h, rfl, id⟩
    · exact .inr h
  · cases r; rfl
/-- how a def's arguments bind, from its text -/
def argNames (st : Stmt) : List Str := (defArgs st).args.map (·.arg)
theorem lawRoom {k : Nat} (hk : k ≤ 200) : Room k callerA := by
  refine ⟨rfl, ?_, ?_⟩
  · show callerA.depth + 3 * k + 5 < recursionLimit
    have h1 : callerA.depth ≤ 301 := by decide
    have h2 : recursionLimit = 1000 := by decide
    omega
  · show callerA.units + 16 * k + 200 < cLine
    have h1 : callerA.units ≤ 4 := by decide
    have h2 : cLine = 9900 := by decide
    omega
end DL
set_option Elab.async false
set_option linter.all false
set_option maxRecDepth 100000
set_option maxHeartbeats 4000000
namespace DL
open PySem PySem.Spec PyProof.Rows L2
/-! ### stores that only grew -/
def Ext (M M' : Mem) : Prop := ∀ a o, M a = some o → M' a = some o
section
variable {M M' M0 : Mem} {d : D} {Q : D → Mem → Prop} {p : Addr} {o : MO}
theorem Ext.refl : Ext M M := fun _ _ h => h
theorem Ext.put (h : Ext M M') (n : M p = none) : Ext M (put M' p o) := fun a u e => by
  by_cases q : a = p
  · rw [q, n] at e; cases e
  · rw [put_ne q]; exact h a u e
theorem Drop.to (c : ClM M0) (cd : Cl M0 d) (x : Ext M0 M') (k : ∀ a o, M a = some o → ∃ o', M0 a = some o') (q : Q d M0) : Drop M M' d Q :=
  ⟨M0, d, ⟨k, fun a o h => ⟨o, x a o h, (c a o h).frz⟩⟩, cd.frz, q⟩
theorem Drop.ext (c : ClM M) (cd : Cl M d) (x : Ext M M') (q : Q d M) : Drop M M' d Q := Drop.to c cd x (fun a o h => ⟨o, h⟩) q
theorem Drop.id (c : ClM M) (cd : Cl M d) (q : Q d M) : Drop M M d Q := Drop.ext c cd .refl q
end
theorem Cls.of_all {M : Mem} : ∀ {xs : List D}, (∀ x ∈ xs, Cl M x) → Cls M xs
  | [], _ => .nil
  | x :: xs, h => .cons (h x (List.mem_cons_self ..)) (Cls.of_all fun y m => h y (List.mem_cons_of_mem _ m))
theorem Cls.mem {M : Mem} : ∀ {xs : List D}, Cls M xs → ∀ x ∈ xs, Cl M x
  | _, .cons a r, y, m => by
    rcases List.mem_cons.mp m with rfl | m
    · exact a
    · exact r.mem y m
theorem Cls.ints {M : Mem} {ns : List Int} : Cls M (ns.map D.int) := Cls.of_all fun x m => by
  obtain ⟨i, _, rfl⟩ := List.mem_map.mp m
  exact .int i
theorem Cl.ints {M : Mem} {ns : List Int} : Cl M (.tup (ns.map D.int)) := .tup .ints
/-! ### a maker of conditions -/
def getV (o : Option (Option D)) (k : D → Prop) : Prop := match o with
  | some (some d) => k d
  | _ => False
def getI (d : D) (k : Int → Prop) : Prop := match d with
  | .int i => k i
  | _ => False
def getO {α : Type} (o : Option α) (k : α → Prop) : Prop := match o with
  | some d => k d
  | _ => False
def ifT (o : Option Bool) (a b : Prop) : Prop := ∃ k, o = some k ∧ if k = true then a else b
def lstV (d : D) (k : List D → Prop) : Prop := match d with
  | .lst xs => k xs
  | _ => False
def callV (o : Option DSp) (ds : List D) (M : Mem) (Q : D → Mem → Prop) (E : Exn → Mem → Prop) : Prop := ∃ sp : DSp, o = some sp ∧ sp.wp ds M Q E
def newX (own : Bool) (xs : List D) (M : Mem) (Q : D → Mem → Prop) : Prop := newL own xs M Q
def binX (own : Bool) (op : BOp) (x y : D) (M : Mem) (Q : D → Mem → Prop) : Prop := binW own op x y M Q
def cmpX (op : COp) (x y : D) (M : Mem) (Q : D → Mem → Prop) : Prop := cmpW op x y M Q
def ixX (x y : D) (M : Mem) (Q : D → Mem → Prop) : Prop := ixW x y M Q
def slX (own : Bool) (x : D) (lo hi : Option Int) (M : Mem) (Q : D → Mem → Prop) : Prop := slW own x lo hi M Q
def bltX (own : Bool) (f : BF) (ds : List D) (M : Mem) (Q : D → Mem → Prop) : Prop := bltW own f ds M Q
section
variable (Γ : List DSp) (gs : List D)
def seqX (ss : ISs) (C : SC) (E : Exn → Mem → Prop) (ρ : Env) (M : Mem) : Prop := sSs Γ gs ss ρ M C E
def forX (t : Tg) (body : ISs) (src : Src) (ρ : Env) (M : Mem) (C : SC) (E : Exn → Mem → Prop) : Prop := forL src.keep (tgW t) (fun ρ1 M2 C2 => sSs Γ gs body ρ1 M2 C2 E) src.xs ρ M C
def lcX (own : Bool) (t : Tg) (elt : IE) (tst : IO) (src : Src) (ρ : Env) (M : Mem) (Q : D → Mem → Prop) : Prop := lcL src.keep (tgW t) (fun ρ1 M2 Q2 => sIT Γ gs tst ρ1 M2 Q2 noE) (fun ρ1 M2 Q2 => sE Γ gs elt ρ1 M2 Q2 noE) (wipeE ρ (tgSlots t)) src.xs [] M fun acc M2 => newL own acc M2 Q
def whX (c : IE) (body : ISs) (ρ : Env) (M : Mem) (C : SC) (E : Exn → Mem → Prop) : Prop := sS Γ gs (.while c body) ρ M C E
def tupX (ds : List D) (M : Mem) (Q : D → Mem → Prop) : Prop := ds.length ≤ sizeLine ∧ Q (.tup ds) M
end
section
variable {Γ : List DSp} {gs : List D} {ρ : Env} {M : Mem} {Q : D → Mem → Prop} {E : Exn → Mem → Prop} {C : SC} {own : Bool}
theorem getV_eq {o : Option (Option D)} {k : D → Prop} : (∃ d, o = some (some d) ∧ k d) = getV o k := by
  unfold getV
  apply propext
  constructor
  · rintro ⟨d, rfl, h⟩; exact h
  · intro h
    match o, h with
    | some (some d), h => exact ⟨d, rfl, h⟩
theorem getO_eq {α : Type} {o : Option α} {k : α → Prop} : (∃ d, o = some d ∧ k d) = getO o k := by
  unfold getO
  apply propext
  constructor
  · rintro ⟨d, rfl, h⟩; exact h
  · intro h
    match o, h with
    | some d, h => exact ⟨d, rfl, h⟩
theorem getI_eq {o : D} {k : Int → Prop} : (∃ d, o = .int d ∧ k d) = getI o k := by
  unfold getI
  apply propext
  constructor
  · rintro ⟨d, rfl, h⟩; exact h
  · intro h
    match o, h with
    | .int d, h => exact ⟨d, rfl, h⟩
theorem getV_congr {o o' : Option (Option D)} {k : D → Prop} (h : o = o') : getV o k = getV o' k := by rw [h]
theorem getO_congr {α : Type} {o o' : Option α} {k : α → Prop} (h : o = o') : getO o k = getO o' k := by rw [h]
theorem getI_congr {o o' : D} {k : Int → Prop} (h : o = o') : getI o k = getI o' k := by rw [h]
theorem lstV_congr {o o' : D} {k : List D → Prop} (h : o = o') : lstV o k = lstV o' k := by rw [h]
theorem ifT_congr {o o' : Option Bool} {a b : Prop} (h : o = o') : ifT o a b = ifT o' a b := by rw [h]
theorem callV_congr {o o' : Option DSp} {ds ds' : List D} {M M' : Mem} (h : o = o') (h1 : ds = ds') (h2 : M = M') : callV o ds M Q E = callV o' ds' M' Q E := by rw [h, h1, h2]
theorem newX_congr {ds ds' : List D} {M M' : Mem} (h1 : ds = ds') (h2 : M = M') : newX own ds M Q = newX own ds' M' Q := by rw [h1, h2]
theorem tupX_congr {ds ds' : List D} {M M' : Mem} (h1 : ds = ds') (h2 : M = M') : tupX ds M Q = tupX ds' M' Q := by rw [h1, h2]
theorem binX_congr {op : BOp} {x x' y y' : D} {M M' : Mem} (h : x = x') (h1 : y = y') (h2 : M = M') : binX own op x y M Q = binX own op x' y' M' Q := by rw [h, h1, h2]
theorem cmpX_congr {op : COp} {x x' y y' : D} {M M' : Mem} (h : x = x') (h1 : y = y') (h2 : M = M') : cmpX op x y M Q = cmpX op x' y' M' Q := by rw [h, h1, h2]
theorem ixX_congr {x x' y y' : D} {M M' : Mem} (h : x = x') (h1 : y = y') (h2 : M = M') : ixX x y M Q = ixX x' y' M' Q := by rw [h, h1, h2]
theorem slX_congr {x x' : D} {lo lo' hi hi' : Option Int} {M M' : Mem} (h : x = x') (h1 : lo = lo') (h3 : hi = hi') (h2 : M = M') : slX own x lo hi M Q = slX own x' lo' hi' M' Q := by rw [h, h1, h2, h3]
theorem bltX_congr {f : BF} {ds ds' : List D} {M M' : Mem} (h1 : ds = ds') (h2 : M = M') : bltX own f ds M Q = bltX own f ds' M' Q := by rw [h1, h2]
theorem seqX_congr {ss : ISs} {ρ' : Env} {M M' : Mem} (h1 : ρ = ρ') (h2 : M = M') : seqX Γ gs ss C E ρ M = seqX Γ gs ss C E ρ' M' := by rw [h1, h2]
theorem forX_congr {t : Tg} {ss : ISs} {src src' : Src} {ρ' : Env} {M M' : Mem} (h : src = src') (h1 : ρ = ρ') (h2 : M = M') : forX Γ gs t ss src ρ M C E = forX Γ gs t ss src' ρ' M' C E := by rw [h1, h2, h]
theorem lcX_congr {t : Tg} {elt : IE} {tst : IO} {src src' : Src} {ρ' : Env} {M M' : Mem} (h : src = src') (h1 : ρ = ρ') (h2 : M = M') : lcX Γ gs own t elt tst src ρ M Q = lcX Γ gs own t elt tst src' ρ' M' Q := by rw [h1, h2, h]
theorem whX_congr {c : IE} {ss : ISs} {ρ' : Env} {M M' : Mem} (h1 : ρ = ρ') (h2 : M = M') : whX Γ gs c ss ρ M C E = whX Γ gs c ss ρ' M' C E := by rw [h1, h2]
/-! the steps -/
theorem x_var {i : Nat} : sE Γ gs (.var i) ρ M Q E = getV ρ[i]? fun d => Q d M := by unfold sE; exact getV_eq
theorem x_cst {v : CV} : sE Γ gs (.cst v) ρ M Q E = Q v.d M := by unfold sE; rfl
theorem x_glob {i : Nat} : sE Γ gs (.glob i) ρ M Q E = getO gs[i]? fun d => Q d M := by unfold sE; exact getO_eq
theorem x_tup {es : IEs} : sE Γ gs (.tup es) ρ M Q E = sEs Γ gs es ρ M (fun ds M1 => tupX ds M1 Q) E := by unfold sE; rfl
theorem x_lst {es : IEs} : sE Γ gs (.lst own es) ρ M Q E = sEs Γ gs es ρ M (fun ds M1 => newX own ds M1 Q ∧ ds.length ≤ sizeLine) E := by unfold sE newX; congr; funext a b; exact propext And.comm
theorem x_bin {op : BOp} {a b : IE} : sE Γ gs (.bin own op a b) ρ M Q E = sE Γ gs a ρ M (fun x M1 => sE Γ gs b ρ M1 (fun y M2 => binX own op x y M2 Q) E) E := by
  (conv => lhs; unfold sE)
  try rfl
theorem x_neg {a : IE} : sE Γ gs (.neg a) ρ M Q E = sE Γ gs a ρ M (fun x M1 => getI x fun i => Q (.int (-i)) M1) E := by
  (conv => lhs; unfold sE; simp only [getI_eq])
  try rfl
theorem x_not {a : IE} : sE Γ gs (.not a) ρ M Q E = sE Γ gs a ρ M (fun x M1 => getO (truth M1 x) fun b => Q (.bl (!b)) M1) E := by
  (conv => lhs; unfold sE; simp only [getO_eq])
  try rfl
theorem x_and {es : IEs} : sE Γ gs (.and es) ρ M Q E = sAnd Γ gs es ρ M Q E := by
  (conv => lhs; unfold sE)
  try rfl
theorem x_or {es : IEs} : sE Γ gs (.or es) ρ M Q E = sOr Γ gs es ρ M Q E := by
  (conv => lhs; unfold sE)
  try rfl
theorem x_cmp {op : COp} {a b : IE} : sE Γ gs (.cmp op a b) ρ M Q E = sE Γ gs a ρ M (fun x M1 => sE Γ gs b ρ M1 (fun y M2 => cmpX op x y M2 Q) E) E := by
  (conv => lhs; unfold sE)
  try rfl
theorem x_isN {no : Bool} {a : IE} : sE Γ gs (.isN no a) ρ M Q E = sE Γ gs a ρ M (fun x M1 => Q (.bl (no != isNon x)) M1) E := by
  (conv => lhs; unfold sE)
  try rfl
theorem x_ite {c a b : IE} : sE Γ gs (.ite c a b) ρ M Q E = sE Γ gs c ρ M (fun x M1 => ifT (truth M1 x) (sE Γ gs a ρ M1 Q E) (sE Γ gs b ρ M1 Q E)) E := by
  (conv => lhs; unfold sE)
  try rfl
theorem x_ix {a b : IE} : sE Γ gs (.ix a b) ρ M Q E = sE Γ gs a ρ M (fun x M1 => sE Γ gs b ρ M1 (fun y M2 => ixX x y M2 Q) E) E := by
  (conv => lhs; unfold sE)
  try rfl
theorem x_sl {a : IE} {lo hi : IO} : sE Γ gs (.sl own a lo hi) ρ M Q E = sE Γ gs a ρ M (fun x M1 => sIO Γ gs lo ρ M1 (fun l M2 => sIO Γ gs hi ρ M2 (fun h M3 => slX own x l h M3 Q) E) E) E := by
  (conv => lhs; unfold sE)
  try rfl
theorem x_call {f : Nat} {es : IEs} : sE Γ gs (.call f es) ρ M Q E = sEs Γ gs es ρ M (fun ds M1 => callV Γ[f]? ds M1 Q E) E := by
  (conv => lhs; unfold sE)
  try rfl
theorem x_call0 {f : Nat} : sE Γ gs (.call0 f) ρ M Q E = callV Γ[f]? [] M Q noE := by
  (conv => lhs; unfold sE)
  try rfl
theorem x_blt {f : BF} {es : IEs} : sE Γ gs (.blt own f es) ρ M Q E = sEs Γ gs es ρ M (fun ds M1 => bltX own f ds M1 Q) E := by
  (conv => lhs; unfold sE)
  try rfl
theorem x_isi {a : IE} {ts : List Ty} : sE Γ gs (.isi a ts) ρ M Q E = sE Γ gs a ρ M (fun x M1 => getO (isTys M1 x ts) fun b => Q (.bl b) M1) E := by
  (conv => lhs; unfold sE; simp only [getO_eq])
  try rfl
theorem x_lc {t : Tg} {elt : IE} {it : II} {tst : IO} : sE Γ gs (.lc own t elt it tst) ρ M Q E = sI Γ gs it ρ M (fun src M1 => lcX Γ gs own t elt tst src ρ M1 Q) E := by
  (conv => lhs; unfold sE)
  try rfl
theorem x_nil {Q : List D → Mem → Prop} : sEs Γ gs .nil ρ M Q E = Q [] M := by unfold sEs; rfl
theorem x_cons {e : IE} {es : IEs} {Q : List D → Mem → Prop} : sEs Γ gs (.cons e es) ρ M Q E = sE Γ gs e ρ M (fun d M1 => sEs Γ gs es ρ M1 (fun ds M2 => Q (d :: ds) M2) E) E := by
  (conv => lhs; unfold sEs)
  try rfl
theorem x_and1 {e : IE} : sAnd Γ gs (.cons e .nil) ρ M Q E = sE Γ gs e ρ M Q E := by
  (conv => lhs; unfold sAnd)
  try rfl
theorem x_and2 {e f : IE} {es : IEs} : sAnd Γ gs (.cons e (.cons f es)) ρ M Q E = sE Γ gs e ρ M (fun x M1 => ifT (truth M1 x) (sAnd Γ gs (.cons f es) ρ M1 Q E) (Q x M1)) E := by
  (conv => lhs; unfold sAnd)
  try rfl
theorem x_or1 {e : IE} : sOr Γ gs (.cons e .nil) ρ M Q E = sE Γ gs e ρ M Q E := by
  (conv => lhs; unfold sOr)
  try rfl
theorem x_or2 {e f : IE} {es : IEs} : sOr Γ gs (.cons e (.cons f es)) ρ M Q E = sE Γ gs e ρ M (fun x M1 => ifT (truth M1 x) (Q x M1) (sOr Γ gs (.cons f es) ρ M1 Q E)) E := by
  (conv => lhs; unfold sOr)
  try rfl
theorem x_ioN {Q : Option Int → Mem → Prop} : sIO Γ gs .none ρ M Q E = Q none M := by
  (conv => lhs; unfold sIO)
  try rfl
theorem x_ioS {e : IE} {Q : Option Int → Mem → Prop} : sIO Γ gs (.some e) ρ M Q E = sE Γ gs e ρ M (fun x M1 => getI x fun i => Q (some i) M1) E := by
  (conv => lhs; unfold sIO; simp only [getI_eq])
  try rfl
theorem x_seq {e : IE} {Q : Src → Mem → Prop} : sI Γ gs (.seq e) ρ M Q E = sE Γ gs e ρ M (fun d M1 => getO (seqOf M1 d) fun xs => Q ⟨xs, fun M' => seqOf M' d = some xs⟩ M1) E := by
  (conv => lhs; unfold sI; simp only [getO_eq])
  try rfl
theorem x_rng1 {a : IE} {Q : Src → Mem → Prop} : sI Γ gs (.rng1 a) ρ M Q E = sE Γ gs a ρ M (fun d M1 => getI d fun n => (-(2 ^ 62) ≤ n ∧ n < 2 ^ 62) ∧ Q ⟨(List.range n.toNat).map (fun k => D.int (k : Nat)), fun _ => True⟩ M1) E := by
  (conv => lhs; unfold sI; simp only [getI_eq])
  try rfl
theorem getI2 {a b : D} {k : Int → Int → Prop} : (∃ m n : Int, a = .int m ∧ b = .int n ∧ k m n) = getI a fun m => getI b fun n => k m n := by
  apply propext
  constructor
  · rintro ⟨m, n, rfl, rfl, h⟩; exact h
  · intro h
    unfold getI at h
    match a, h with
    | .int m, h =>
      match b, h with
      | .int n, h => exact ⟨m, n, rfl, rfl, h⟩
theorem x_rng2 {a b : IE} {Q : Src → Mem → Prop} : sI Γ gs (.rng2 a b) ρ M Q E = sE Γ gs a ρ M (fun d M1 => sE Γ gs b ρ M1 (fun e M2 => getI d fun m => getI e fun n => (-(2 ^ 62) ≤ m ∧ m < 2 ^ 62 ∧ -(2 ^ 62) ≤ n ∧ n < 2 ^ 62) ∧ Q ⟨(List.range (n - m).toNat).map (fun (k : Nat) => D.int (m + k)), fun _ => True⟩ M2) E) E := by
  (conv => lhs; unfold sI; simp only [getI2])
  try rfl
theorem x_pop {a : IE} : sE Γ gs (.pop a) ρ M Q E = sE Γ gs a ρ M (fun x M1 => ∃ l xs d, x = .ref l ∧ M1 l = some (.lst xs) ∧ xs[xs.length - 1]? = some d ∧ Q d (put M1 l (.lst xs.dropLast))) E := by
  (conv => lhs; unfold sE)
  try rfl
theorem x_disp {ks : List Str} {es : IEs} : sE Γ gs (.disp ks es) ρ M Q E = sEs Γ gs es ρ M (fun ds M1 => ds.length = ks.length ∧ ks.length ≤ 15 ∧ ks.Nodup ∧ ∀ p, M1 p = none → Q (.ref p) (put M1 p (.dK (disp1 ks ds)))) E := by
  (conv => lhs; unfold sE)
  try rfl
def revX (own : Bool) (x : D) (M : Mem) (Q : D → Mem → Prop) : Prop := match x with
      | .tup xs => Q (.tup xs.reverse) M
      | x => ∃ xs, (x = .scr xs ∨ rs M x = .lst xs) ∧ newL own xs.reverse M Q
theorem x_rev {a : IE} : sE Γ gs (.rev own a) ρ M Q E = sE Γ gs a ρ M (fun x M1 => revX own x M1 Q) E := by
  (conv => lhs; unfold sE)
  try rfl
theorem revX_tup {xs : List D} : revX own (.tup xs) M Q = Q (.tup xs.reverse) M := rfl
/-! statements -/
theorem x_end {ss : ISs} : seqX Γ gs ss C E ρ M = sSs Γ gs ss ρ M C E := rfl
theorem x_snil : sSs Γ gs .nil ρ M C E = C.nx ρ M := by
  (conv => lhs; unfold sSs)
  try rfl
theorem x_scons {s : IS} {ss : ISs} : sSs Γ gs (.cons s ss) ρ M C E = sS Γ gs s ρ M { nx := seqX Γ gs ss C E, rt := C.rt, bk := C.bk, ct := C.ct } E := by
  (conv => lhs; unfold sSs)
  try rfl
theorem x_set {i : Nat} {e : IE} : sS Γ gs (.set i e) ρ M C E = sE Γ gs e ρ M (fun d M1 => C.nx (ρ.set i (some d)) M1) E := by
  (conv => lhs; unfold sS)
  try rfl
theorem x_par {i j : Nat} {a b : IE} : sS Γ gs (.par i j a b) ρ M C E = sE Γ gs a ρ M (fun x M1 => sE Γ gs b ρ M1 (fun y M2 => C.nx ((ρ.set i (some x)).set j (some y)) M2) E) E := by
  (conv => lhs; unfold sS)
  try rfl
theorem x_par3 {i j l : Nat} {a b c : IE} : sS Γ gs (.par3 i j l a b c) ρ M C E = sE Γ gs a ρ M (fun x M1 => sE Γ gs b ρ M1 (fun y M2 => sE Γ gs c ρ M2 (fun z M3 => C.nx (((ρ.set i (some x)).set j (some y)).set l (some z)) M3) E) E) E := by
  (conv => lhs; unfold sS)
  try rfl
theorem x_unp {t : Tg} {e : IE} : sS Γ gs (.unp t e) ρ M C E = sE Γ gs e ρ M (fun d M1 => tgW t d ρ fun ρ1 => C.nx ρ1 M1) E := by
  (conv => lhs; unfold sS)
  try rfl
def refX (x : D) (k : Addr → Prop) : Prop := match x with
  | .ref a => k a
  | _ => False
theorem refX_congr {o o' : D} {k : Addr → Prop} (h : o = o') : refX o k = refX o' k := by rw [h]
theorem refX_eq {o : D} {k : Addr → Prop} : (∃ a, o = .ref a ∧ k a) = refX o k := by
  unfold refX
  apply propext
  constructor
  · rintro ⟨d, rfl, h⟩; exact h
  · intro h
    match o, h with
    | .ref d, h => exact ⟨d, rfl, h⟩
theorem refX_ref {a : Addr} {k : Addr → Prop} : refX (.ref a) k = k a := rfl
def sixX (M : Mem) (a : Addr) (k e : D) (Q : Mem → Prop) : Prop := six1 M a k e Q
theorem sixX_congr {M M' : Mem} {a : Addr} {k k' e e' : D} {Q : Mem → Prop} (h : M = M') (h1 : k = k') (h2 : e = e') : sixX M a k e Q = sixX M' a k' e' Q := by rw [h, h1, h2]
theorem x_six {o k e : IE} : sS Γ gs (.six o k e) ρ M C E = sE Γ gs e ρ M (fun v M1 => sE Γ gs o ρ M1 (fun x M2 => sE Γ gs k ρ M2 (fun y M3 => refX x fun a => sixX M3 a y v (C.nx ρ)) E) E) E := by
  (conv => lhs; unfold sS; simp only [refX_eq])
  try rfl
theorem x_exp {e : IE} : sS Γ gs (.exp e) ρ M C E = sE Γ gs e ρ M (fun _ M1 => C.nx ρ M1) E := by
  (conv => lhs; unfold sS)
  try rfl
def isL (M : Mem) (a : Addr) : Prop := ∃ xs, M a = some (.lst xs)
def appX (M : Mem) (a : Addr) (d : D) (k : Mem → Prop) : Prop := ∃ xs, M a = some (.lst xs) ∧ xs.length < sizeLine ∧ k (put M a (.lst (xs ++ [d])))
theorem appX_congr {M M' : Mem} {a : Addr} {d d' : D} {k : Mem → Prop} (h : M = M') (h1 : d = d') : appX M a d k = appX M' a d' k := by rw [h, h1]
theorem p_isL {M : Mem} {p : Addr} {fs : List D} : isL (put M p (.lst fs)) p = True := eq_true ⟨fs, put_same⟩
theorem p_appX {M : Mem} {p : Addr} {fs : List D} {d : D} {k : Mem → Prop} : appX (put M p (.lst fs)) p d k = (fs.length < sizeLine ∧ k (put M p (.lst (fs ++ [d])))) := by
  refine propext ⟨fun ⟨xs, h1, h2, h3⟩ => ?_, fun h => ⟨fs, put_same, h.1, by rw [put_put]; exact h.2⟩⟩
  rw [put_same] at h1; cases h1; rw [put_put] at h3; exact ⟨h2, h3⟩
theorem x_app {o e : IE} : sS Γ gs (.app o e) ρ M C E = sE Γ gs o ρ M (fun x M1 => refX x fun a => isL M1 a ∧ sE Γ gs e ρ M1 (fun d M2 => appX M2 a d (C.nx ρ)) E) E := by
  (conv => lhs; unfold sS; simp only [refX_eq])
  try rfl
theorem x_ret {e : IE} : sS Γ gs (.ret e) ρ M C E = sE Γ gs e ρ M C.rt E := by
  (conv => lhs; unfold sS)
  try rfl
theorem x_retN : sS Γ gs .retN ρ M C E = C.rt .non M := by
  (conv => lhs; unfold sS)
  try rfl
theorem x_pass : sS Γ gs .pass ρ M C E = C.nx ρ M := by
  (conv => lhs; unfold sS)
  try rfl
theorem x_brk : sS Γ gs .brk ρ M C E = C.bk ρ M := by
  (conv => lhs; unfold sS)
  try rfl
theorem x_cont : sS Γ gs .cont ρ M C E = C.ct ρ M := by
  (conv => lhs; unfold sS)
  try rfl
theorem x_never : sS Γ gs .never ρ M C E = False := by
  (conv => lhs; unfold sS)
  try rfl
theorem x_if {c : IE} {a b : ISs} : sS Γ gs (.ite c a b) ρ M C E = sE Γ gs c ρ M (fun x M1 => ifT (truth M1 x) (sSs Γ gs a ρ M1 C E) (sSs Γ gs b ρ M1 C E)) E := by
  (conv => lhs; unfold sS)
  try rfl
theorem x_for {t : Tg} {it : II} {body : ISs} : sS Γ gs (.for t it body) ρ M C E = sI Γ gs it ρ M (fun src M1 => forX Γ gs t body src ρ M1 C E) E := by
  (conv => lhs; unfold sS)
  try rfl
theorem x_while {c : IE} {body : ISs} : sS Γ gs (.while c body) ρ M C E = whX Γ gs c body ρ M C E := rfl
/-! values -/
theorem v_get {d : D} {k : D → Prop} : getV (some (some d)) k = k d := rfl
theorem v_getO {α : Type} {d : α} {k : α → Prop} : getO (some d) k = k d := rfl
theorem v_getI {d : Int} {k : Int → Prop} : getI (.int d) k = k d := rfl
theorem v_lst {d : List D} {k : List D → Prop} : lstV (.lst d) k = k d := rfl
theorem v_ift {a b : Prop} : ifT (some true) a b = a := propext ⟨fun ⟨_, e, h⟩ => by cases e; exact h, fun h => ⟨_, rfl, h⟩⟩
theorem v_iff {a b : Prop} : ifT (some false) a b = b := propext ⟨fun ⟨_, e, h⟩ => by cases e; exact h, fun h => ⟨_, rfl, h⟩⟩
theorem v_ifn {a b : Prop} {k : Bool} : ifT (some !k) a b = ifT (some k) b a := by cases k <;> simp only [Bool.not_true, Bool.not_false, v_ift, v_iff]
theorem v_ifd {a b p : Prop} [Decidable p] : ifT (some (decide p)) a b = ((p → a) ∧ (¬ p → b)) := by
  by_cases h : p <;> simp [h, v_ift, v_iff]
theorem v_ifb {a b : Prop} {k : Bool} : ifT (some k) a b = ((k = true → a) ∧ (k = false → b)) := by cases k <;> simp [v_ift, v_iff]
theorem v_if0 {a b : Prop} {i : Int} : ifT (some (i != 0)) a b = ((i ≠ 0 → a) ∧ (i = 0 → b)) := by
  by_cases h : i = 0 <;> simp [h, v_ift, v_ifb]
theorem v_ife {a b : Prop} {i j : Int} : ifT (some (i == j)) a b = ((i = j → a) ∧ (i ≠ j → b)) := by
  by_cases h : i = j <;> simp [h, v_ift, v_ifb]
theorem v_newF {xs : List D} : newX false xs M Q = Q (.lst xs) M := rfl
theorem v_newT {xs : List D} : newX true xs M Q = ∀ p, M p = none → Q (.ref p) (put M p (.lst xs)) := rfl
theorem v_tup {xs : List D} : tupX xs M Q = (xs.length ≤ sizeLine ∧ Q (.tup xs) M) := rfl
theorem v_add {i j : Int} : binX own .add (.int i) (.int j) M Q = Q (.int (i + j)) M := rfl
theorem v_sub {i j : Int} : binX own .sub (.int i) (.int j) M Q = Q (.int (i - j)) M := rfl
theorem v_mul {i j : Int} : binX own .mul (.int i) (.int j) M Q = (mulOk i j ∧ Q (.int (i * j)) M) := rfl
theorem v_fdiv {i j : Int} : binX own .fdiv (.int i) (.int j) M Q = (divOk j ∧ Q (.int (i.fdiv j)) M) := rfl
theorem v_mod {i j : Int} : binX own .mod (.int i) (.int j) M Q = (j ≠ 0 ∧ Q (.int (i.fmod j)) M) := rfl
theorem v_pow {i j : Int} : binX own .pow (.int i) (.int j) M Q = ((0 ≤ j ∧ j ≤ 1000000 ∧ i.natAbs < 2 ^ 64) ∧ Q (.int (i ^ j.toNat)) M) := rfl
theorem v_addT {xs ys : List D} : binX own .add (.tup xs) (.tup ys) M Q = (xs.length + ys.length ≤ sizeLine ∧ Q (.tup (xs ++ ys)) M) := rfl
theorem v_addL {xs ys : List D} : binX own .add (.lst xs) (.lst ys) M Q = (newX own (xs ++ ys) M Q ∧ xs.length + ys.length ≤ sizeLine) := propext ⟨fun ⟨_, _, h1, h2, h3, h4⟩ => by cases h1; cases h2; exact ⟨h4, h3⟩, fun ⟨h4, h3⟩ => ⟨_, _, rfl, rfl, h3, h4⟩⟩
theorem v_mulL {xs : List D} {k : Int} : binX own .mul (.lst xs) (.int k) M Q = (newX own (repL xs k) M Q ∧ (-(2 ^ 63) ≤ k ∧ k < 2 ^ 63 ∧ xs.length * k.toNat ≤ sizeLine)) := propext ⟨fun ⟨_, h1, h3, h4⟩ => by cases h1; exact ⟨h4, h3⟩, fun ⟨h4, h3⟩ => ⟨_, rfl, h3, h4⟩⟩
theorem v_lt {i j : Int} : cmpX .lt (.int i) (.int j) M Q = Q (.bl (decide (i < j))) M := propext ⟨fun ⟨_, _, a, b, h⟩ => by cases a; cases b; exact h, fun h => ⟨_, _, rfl, rfl, h⟩⟩
theorem v_le {i j : Int} : cmpX .le (.int i) (.int j) M Q = Q (.bl (decide (i ≤ j))) M := propext ⟨fun ⟨_, _, a, b, h⟩ => by cases a; cases b; exact h, fun h => ⟨_, _, rfl, rfl, h⟩⟩
theorem v_gt {i j : Int} : cmpX .gt (.int i) (.int j) M Q = Q (.bl (decide (j < i))) M := propext ⟨fun ⟨_, _, a, b, h⟩ => by cases a; cases b; exact h, fun h => ⟨_, _, rfl, rfl, h⟩⟩
theorem v_ge {i j : Int} : cmpX .ge (.int i) (.int j) M Q = Q (.bl (decide (j ≤ i))) M := propext ⟨fun ⟨_, _, a, b, h⟩ => by cases a; cases b; exact h, fun h => ⟨_, _, rfl, rfl, h⟩⟩
theorem v_eqI {i j : Int} : cmpX .eq (.int i) (.int j) M Q = Q (.bl (decide (i = j))) M := propext ⟨fun h => h.2.2, fun h => ⟨rfl, rfl, h⟩⟩
theorem v_neI {i j : Int} : cmpX .ne (.int i) (.int j) M Q = Q (.bl (!decide (i = j))) M := propext ⟨fun h => h.2.2, fun h => ⟨rfl, rfl, h⟩⟩
theorem v_eqB {i j : Bool} : cmpX .eq (.bl i) (.bl j) M Q = Q (.bl (i == j)) M := propext ⟨fun h => h.2.2, fun h => ⟨rfl, rfl, h⟩⟩
theorem v_neB {i j : Bool} : cmpX .ne (.bl i) (.bl j) M Q = Q (.bl (!(i == j))) M := propext ⟨fun h => h.2.2, fun h => ⟨rfl, rfl, h⟩⟩
theorem v_ixT {xs : List D} {i : Int} : ixX (.tup xs) (.int i) M Q = getO (atI xs i) fun d => Q d M := getO_eq
theorem v_ixL {xs : List D} {i : Int} : ixX (.lst xs) (.int i) M Q = getO (atI xs i) fun d => Q d M := getO_eq
theorem v_slT {xs : List D} {lo hi : Option Int} : slX own (.tup xs) lo hi M Q = Q (.tup (cutD xs lo hi)) M := rfl
theorem v_slL {xs : List D} {lo hi : Option Int} : slX own (.lst xs) lo hi M Q = newX own (cutD xs lo hi) M Q := by
  refine propext ⟨fun ⟨_, h1, h2⟩ => ?_, fun h => ⟨_, .inr rfl, h⟩⟩
  rcases h1 with h1 | h1
  · cases h1
  · cases h1; exact h2
theorem v_slS {xs : List D} {lo hi : Option Int} : slX own (.scr xs) lo hi M Q = newX own (cutD xs lo hi) M Q := by
  refine propext ⟨fun ⟨_, h1, h2⟩ => ?_, fun h => ⟨_, .inl rfl, h⟩⟩
  rcases h1 with h1 | h1
  · cases h1; exact h2
  · cases h1
theorem v_lenT {xs : List D} : bltX own .len [.tup xs] M Q = Q (.int xs.length) M := propext ⟨fun ⟨_, a, h⟩ => by cases a; exact h, fun h => ⟨_, rfl, h⟩⟩
theorem v_lenL {xs : List D} : bltX own .len [.lst xs] M Q = Q (.int xs.length) M := propext ⟨fun ⟨_, a, h⟩ => by cases a; exact h, fun h => ⟨_, rfl, h⟩⟩
theorem v_int {i : Int} : bltX own .toint [.int i] M Q = Q (.int i) M := rfl
theorem v_abs {i : Int} : bltX own .abs [.int i] M Q = Q (.int i.natAbs) M := by
  have e : (if i < 0 then -i else i) = (i.natAbs : Int) := by split <;> omega
  exact propext ⟨fun ⟨_, a, h⟩ => by cases a; rwa [e] at h, fun h => ⟨_, rfl, by rwa [e]⟩⟩
theorem v_max2 {i j : Int} : bltX own .max2 [.int i, .int j] M Q = Q (.int (max i j)) M := by
  have e : (if j > i then j else i) = max i j := by split <;> omega
  exact propext ⟨fun ⟨_, _, a, h⟩ => by cases a; rwa [e] at h, fun h => ⟨_, _, rfl, by rwa [e]⟩⟩
theorem v_min2 {i j : Int} : bltX own .min2 [.int i, .int j] M Q = Q (.int (min i j)) M := by
  have e : (if j < i then j else i) = min i j := by split <;> omega
  exact propext ⟨fun ⟨_, _, a, h⟩ => by cases a; rwa [e] at h, fun h => ⟨_, _, rfl, by rwa [e]⟩⟩
theorem v_gcd {i j : Int} : bltX own .gcd [.int i, .int j] M Q = Q (.int (Int.gcd i j : Nat)) M := propext ⟨fun ⟨_, _, a, h⟩ => by cases a; exact h, fun h => ⟨_, _, rfl, h⟩⟩
theorem v_tupT {xs : List D} : bltX own .tuple [.tup xs] M Q = Q (.tup xs) M := propext ⟨fun ⟨_, _, a, b, h⟩ => by cases a; cases b; exact h, fun h => ⟨_, _, rfl, rfl, h⟩⟩
theorem v_tupL {xs : List D} : bltX own .tuple [.lst xs] M Q = Q (.tup xs) M := propext ⟨fun ⟨_, _, a, b, h⟩ => by cases a; cases b; exact h, fun h => ⟨_, _, rfl, rfl, h⟩⟩
theorem v_lstT {xs : List D} : bltX own .list [.tup xs] M Q = newX own xs M Q := propext ⟨fun ⟨_, _, a, b, h⟩ => by cases a; cases b; exact h, fun h => ⟨_, _, rfl, rfl, h⟩⟩
theorem v_lstL {xs : List D} : bltX own .list [.lst xs] M Q = newX own xs M Q := propext ⟨fun ⟨_, _, a, b, h⟩ => by cases a; cases b; exact h, fun h => ⟨_, _, rfl, rfl, h⟩⟩
theorem v_all {d : D} {bs : List Bool} (e : rs M d = .lst (bs.map D.bl)) (h : Q (.bl (bs.all id)) M) : bltX own .all [d] M Q := ⟨d, bs, rfl, e, h⟩
theorem v_tg1 {i : Nat} {d : D} {k : Env → Prop} : tgW (.nm i) d ρ k = k (ρ.set i (some d)) := rfl
theorem v_tg2 {i j : Nat} {x y : D} {k : Env → Prop} : tgW (.tu [i, j]) (.tup [x, y]) ρ k = k ((ρ.set i (some x)).set j (some y)) := propext ⟨fun ⟨_, a, _, h⟩ => by cases a; exact h, fun h => ⟨_, rfl, rfl, h⟩⟩
theorem v_tg3 {i j l : Nat} {x y z : D} {k : Env → Prop} : tgW (.tu [i, j, l]) (.tup [x, y, z]) ρ k = k (((ρ.set i (some x)).set j (some y)).set l (some z)) := propext ⟨fun ⟨_, a, _, h⟩ => by cases a; exact h, fun h => ⟨_, rfl, rfl, h⟩⟩
end
/-! ### truth, types, sequences -/
section
variable {M : Mem}
theorem t_bl {b : Bool} : truth M (.bl b) = some b := rfl
theorem t_int {b : Int} : truth M (.int b) = some (b != 0) := rfl
theorem t_non : truth M .non = some false := rfl
theorem s_tup {xs : List D} : seqOf M (.tup xs) = some xs := rfl
theorem s_lst {xs : List D} : seqOf M (.lst xs) = some xs := rfl
theorem s_scr {xs : List D} : seqOf M (.scr xs) = some xs := rfl
theorem s_ref {a : Addr} {xs : List D} (h : M a = some (.lst xs)) : seqOf M (.ref a) = some xs := by unfold seqOf; dsimp only; rw [h]
theorem r_ref {a : Addr} {xs : List D} (h : M a = some (.lst xs)) : rs M (.ref a) = .lst xs := by unfold rs; dsimp only; rw [h]
theorem i_1 {d : D} {t : Ty} {b : Bool} (h : isTy M t d = some b) : isTys M d [t] = some b := by unfold isTys isTys; rw [h]; simp
end
/-! ### loops -/
section
variable {Γ : List DSp} {gs : List D} {ρ : Env} {M : Mem} {Q : D → Mem → Prop} {E : Exn → Mem → Prop} {C : SC} {own : Bool} {t : Tg}
theorem for_list {α : Type} (g : α → D) (as : List α) (I : List α → Env → Mem → Prop) {body : ISs} {src : Src} (e : src.xs = as.map g) (h0 : I [] ρ M)
    (hs : ∀ done a rest ρ M, as = done ++ a :: rest → I done ρ M → tgW t (g a) ρ fun ρ1 => seqX Γ gs body { nx := fun ρ' M' => src.keep M' ∧ I (done ++ [a]) ρ' M', rt := C.rt, bk := C.nx, ct := fun ρ' M' => src.keep M' ∧ I (done ++ [a]) ρ' M' } E ρ1 M)
    (he : ∀ ρ M, I as ρ M → C.nx ρ M) : forX Γ gs t body src ρ M C E := by
  unfold forX
  rw [e]
  suffices h : ∀ (rest done : List α) (ρ : Env) (M : Mem), as = done ++ rest → I done ρ M → forL src.keep (tgW t) (fun ρ1 M2 C2 => sSs Γ gs body ρ1 M2 C2 E) (rest.map g) ρ M C from h as [] ρ M rfl h0
  intro rest
  induction rest with
  | nil =>
    intro done ρ M q h
    rw [List.append_nil] at q
    subst q
    exact he _ _ h
  | cons a rest ih =>
    intro done ρ M q h
    refine tgW_mono (fun ρ1 z => ?_) (hs done a rest ρ M q h)
    unfold seqX at z
    refine sSs_mono body ?_ (fun _ _ y => y) z
    refine ⟨fun ρ' M' y => ?_, fun _ _ y => y, fun _ _ y => y, fun ρ' M' y => ?_⟩
    · exact ⟨y.1, ih (done ++ [a]) ρ' M' (by rw [q, List.append_assoc]; rfl) y.2⟩
    · exact ⟨y.1, ih (done ++ [a]) ρ' M' (by rw [q, List.append_assoc]; rfl) y.2⟩
/-- a comprehension whose turns keep the store -/
theorem lc_pure {α : Type} (g f : α → D) (as : List α) {elt : IE} {src : Src} (e : src.xs = as.map g) (hl : as.length ≤ sizeLine) (hk : src.keep M)
    (hs : ∀ a, a ∈ as → tgW t (g a) (wipeE ρ (tgSlots t)) fun ρ1 => sE Γ gs elt ρ1 M (fun d M2 => M2 = M ∧ d = f a) noE) (q : newX own (as.map f) M Q) : lcX Γ gs own t elt .none src ρ M Q := by
  unfold lcX
  rw [e]
  suffices h : ∀ (rest done : List α), as = done ++ rest → lcL src.keep (tgW t) (fun ρ1 M2 Q2 => sIT Γ gs .none ρ1 M2 Q2 noE) (fun ρ1 M2 Q2 => sE Γ gs elt ρ1 M2 Q2 noE) (wipeE ρ (tgSlots t)) (rest.map g) (done.map f) M fun acc M2 => newL own acc M2 Q from h as [] rfl
  intro rest
  induction rest with
  | nil =>
    intro done q'
    rw [List.append_nil] at q'
    subst q'
    exact q
  | cons a rest ih =>
    intro done q'
    have ha : a ∈ as := by rw [q']; simp
    refine tgW_mono (fun ρ1 z => ?_) (hs a ha)
    show sIT Γ gs .none ρ1 M _ noE
    unfold sIT
    dsimp only
    rw [if_pos rfl]
    refine sE_mono elt (fun d M2 y => ?_) (fun _ _ y => y) z
    obtain ⟨rfl, rfl⟩ := y
    refine ⟨?_, hk, ?_⟩
    · have := congrArg List.length q'
      rw [List.length_append, List.length_cons] at this
      rw [List.length_map]
      omega
    · have := ih (done ++ [a]) (by rw [q', List.append_assoc]; rfl)
      rwa [List.map_append] at this
/-- a comprehension that may change the store -/
theorem lc_list {α : Type} (g : α → D) (as : List α) (I : Nat → List D → Mem → Prop) {elt : IE} {src : Src} (e : src.xs = as.map g) (h0 : I 0 [] M) (hl : as.length ≤ sizeLine)
    (hs : ∀ k a acc M, as[k]? = some a → acc.length = k → I k acc M → tgW t (g a) (wipeE ρ (tgSlots t)) fun ρ1 => sE Γ gs elt ρ1 M (fun d M2 => src.keep M2 ∧ I (k + 1) (acc ++ [d]) M2) noE)
    (q : ∀ acc M, acc.length = as.length → I as.length acc M → newX own acc M Q) : lcX Γ gs own t elt .none src ρ M Q := by
  unfold lcX
  rw [e]
  suffices h : ∀ (rest : List α) (k : Nat) (acc : List D) (M : Mem), as.drop k = rest → k ≤ as.length → acc.length = k → I k acc M → lcL src.keep (tgW t) (fun ρ1 M2 Q2 => sIT Γ gs .none ρ1 M2 Q2 noE) (fun ρ1 M2 Q2 => sE Γ gs elt ρ1 M2 Q2 noE) (wipeE ρ (tgSlots t)) (rest.map g) acc M fun acc M2 => newL own acc M2 Q from h as 0 [] M rfl (Nat.zero_le _) rfl h0
  intro rest
  induction rest with
  | nil =>
    intro k acc M q' hk ha h
    have : k = as.length := by
      have := congrArg List.length q'
      rw [List.length_drop, List.length_nil] at this
      omega
    subst this
    exact q acc M ha h
  | cons a rest ih =>
    intro k acc M q' hk ha h
    have hk' : k < as.length := by
      have := congrArg List.length q'
      rw [List.length_drop, List.length_cons] at this
      omega
    have ea : as[k]? = some a := by
      have : (as.drop k)[0]? = some a := by rw [q']; rfl
      rwa [List.getElem?_drop, Nat.add_zero] at this
    have er : as.drop (k + 1) = rest := by
      have := congrArg List.tail q'
      rwa [List.tail_drop] at this
    refine tgW_mono (fun ρ1 z => ?_) (hs k a acc M ea ha h)
    show sIT Γ gs .none ρ1 M _ noE
    unfold sIT
    dsimp only
    rw [if_pos rfl]
    refine sE_mono elt (fun d M2 y => ?_) (fun _ _ y => y) z
    refine ⟨by omega, y.1, ih (k + 1) (acc ++ [d]) M2 er (by omega) (by rw [List.length_append, ha]; rfl) y.2⟩
theorem while_ind (W : Nat → Env → Mem → Prop) {c : IE} {body : ISs} (m : Nat) (h0 : W m ρ M)
    (hs : ∀ m ρ M, W m ρ M → sE Γ gs c ρ M (fun x M1 => ifT (truth M1 x) (seqX Γ gs body { nx := fun ρ' M' => ∃ m', m' < m ∧ W m' ρ' M', rt := C.rt, bk := C.nx, ct := fun ρ' M' => ∃ m', m' < m ∧ W m' ρ' M' } E ρ M1) (C.nx ρ M1)) E) : whX Γ gs c body ρ M C E := by
  unfold whX sS
  exact ⟨W, ⟨m, h0⟩, hs⟩
end
end DL
set_option Elab.async false
set_option linter.all false
set_option maxRecDepth 100000
set_option maxHeartbeats 4000000
namespace DL
open PySem PySem.Spec PyProof.Rows L2
/-! ### promises without a store -/
def pf {α : Type} (n : Nat) (ar : α → List D) (pre : α → Prop) (res : α → D) : DSp where
  ar := n
  wp := fun ds M Q _ => ds.length = n ∧ ∃ a, ds = ar a ∧ pre a ∧ Q (res a) M
  mono := fun hQ _ ⟨h, a, h1, h2, h3⟩ => ⟨h, a, h1, h2, hQ _ _ h3⟩
  len := fun h => h.1
def pureSC (M : Mem) (r : D) : SC where
  nx := fun _ M' => r = .non ∧ Ext M M'
  rt := fun d M' => d = r ∧ Ext M M'
  bk := fun _ _ => False
  ct := fun _ _ => False
section
variable {Γ : List DSp} {gs : List D} {M : Mem} {Q : D → Mem → Prop} {E : Exn → Mem → Prop} {α : Type} {n : Nat} {ar : α → List D} {pre : α → Prop} {res : α → D}
theorem body_pf {m : Nat} {ir : ISs} (hres : ∀ a M, Cls M (ar a) → Cl M (res a)) (h : ∀ a M, pre a → Cls M (ar a) → seqX Γ gs ir (pureSC M (res a)) noE (startE m (ar a)) M) : BodyOk Γ gs m ir (pf n ar pre res) := by
  rintro ds M Q E c cs ⟨_, a, rfl, h1, h2⟩
  refine sSs_mono ir ?_ (fun _ _ z => z.elim) (h a M h1 cs)
  refine ⟨fun ρ M' z => ?_, fun d M' z => ?_, fun _ _ z => z.elim, fun _ _ z => z.elim⟩
  · have hr := hres a M cs
    rw [z.1] at hr h2
    exact Drop.ext c hr z.2 h2
  · obtain ⟨rfl, x⟩ := z
    exact Drop.ext c (hres a M cs) x h2
theorem call_pf (a : α) {ds : List D} (hl : (ar a).length = n) (h : pre a) (q : Q (res a) M) (e : ds = ar a := by rfl) : callV (some (pf n ar pre res)) ds M Q E := ⟨_, rfl, by rw [e]; exact hl, a, e, h, q⟩
end
abbrev tp (xs : List Int) : D := .tup (xs.map D.int)
abbrev li (xs : List Int) : D := .lst (xs.map D.int)
theorem cl_tp {M : Mem} {xs : List Int} : Cl M (tp xs) := .tup .ints
def Bit (k : Nat) (i : Int) : Prop := i.natAbs < 2 ^ k
theorem Bit.neg {k : Nat} {i : Int} (h : Bit k i) : Bit k (-i) := by unfold Bit; rw [Int.natAbs_neg]; exact h
theorem Bit.up {k l : Nat} {i : Int} (h : Bit k i) (e : k ≤ l) : Bit l i := Nat.lt_of_lt_of_le h (Nat.pow_le_pow_right (by decide) e)
theorem Bit.mul {k l : Nat} {i j : Int} (h : Bit k i) (g : Bit l j) : Bit (k + l) (i * j) := by
  unfold Bit at *
  rw [Int.natAbs_mul, Nat.pow_add]
  exact Nat.mul_lt_mul'' h g
theorem Bit.add {k : Nat} {i j : Int} (h : Bit k i) (g : Bit k j) : Bit (k + 1) (i + j) := by
  unfold Bit at *
  have := Int.natAbs_add_le i j
  rw [Nat.pow_succ]
  omega
theorem mulOk_of {i j : Int} {a b : Nat} (h1 : Bit a i) (h2 : Bit b j) (h : a + b ≤ 900000 := by decide) : mulOk i j := by
  have l : ∀ {x c : Nat}, x < 2 ^ c → x.log2 ≤ c := fun {x c} h => by
    by_cases z : x = 0
    · subst z; exact Nat.zero_le _
    · exact Nat.le_of_lt ((Nat.log2_lt z).mpr h)
  have e1 := l (show i.natAbs < 2 ^ a from h1)
  have e2 := l (show j.natAbs < 2 ^ b from h2)
  unfold mulOk
  omega
theorem mulOk_of' {i j : Int} {a b : Nat} (h1 : Bit a i) (h2 : Bit b j) (h : a + b ≤ 900000) : mulOk i j := mulOk_of h1 h2 h
theorem divOk2 : divOk 2 := ⟨by decide, by decide⟩
theorem divOk_of {j : Int} {a : Nat} (h0 : j ≠ 0) (h1 : Bit a j) (h : a ≤ 8999 := by decide) : divOk j := by
  refine ⟨h0, ?_⟩
  have z : j.natAbs ≠ 0 := by omega
  have := (Nat.log2_lt z).mpr h1
  omega
end DL
set_option Elab.async false
set_option linter.all false
set_option maxRecDepth 100000
set_option maxHeartbeats 4000000
namespace DL
open PySem PySem.Spec PyProof.Rows L2
/-! ### lists at an index -/
theorem atI_nat {α : Type} {xs : List α} {k : Nat} : atI xs (k : Int) = xs[k]? := by
  unfold atI ixN
  rw [if_pos (by omega)]
  by_cases h : k < xs.length
  · rw [if_pos (by omega)]; simp
  · rw [if_neg (by omega), List.getElem?_eq_none (by omega)]; rfl
theorem atI_int {α : Type} {xs : List α} {i : Int} (h : 0 ≤ i) : atI xs i = xs[i.toNat]? := by
  obtain ⟨k, rfl⟩ := Int.eq_ofNat_of_zero_le h
  exact atI_nat
theorem atI_m1 {α : Type} {xs : List α} : atI xs (-1) = xs.getLast? := by
  unfold atI ixN
  rw [if_neg (by omega), List.getLast?_eq_getElem?]
  by_cases h : xs.length = 0
  · rw [if_neg (by omega), List.getElem?_eq_none (by omega)]; rfl
  · rw [if_pos (by omega)]
    show xs[(-1 + (xs.length : Int)).toNat]? = _
    congr 1
    omega
theorem cut_take {xs : List D} {k : Int} (h : 0 ≤ k) : cutD xs none (some k) = xs.take k.toNat := by
  obtain ⟨k, rfl⟩ := Int.eq_ofNat_of_zero_le h
  unfold cutD
  rw [HT.sIx_none, HT.sIx_nat]
  rw [List.drop_zero, Nat.sub_zero, Int.toNat_natCast]
  by_cases q : k ≤ xs.length
  · rw [Nat.min_eq_left q]
  · rw [Nat.min_eq_right (by omega), List.take_of_length_le (by omega), List.take_of_length_le (by omega)]
theorem cut_drop {xs : List D} {k : Int} (h : 0 ≤ k) : cutD xs (some k) none = xs.drop k.toNat := by
  obtain ⟨k, rfl⟩ := Int.eq_ofNat_of_zero_le h
  unfold cutD
  rw [HT.sIx_none, HT.sIx_nat, Int.toNat_natCast]
  by_cases q : k ≤ xs.length
  · rw [Nat.min_eq_left q, List.take_of_length_le (by simp)]
  · rw [Nat.min_eq_right (by omega), List.drop_of_length_le (by omega), List.drop_of_length_le (i := k) (by omega), List.take_nil]
theorem repL_one {x : D} {k : Int} : repL [x] k = List.replicate k.toNat x := by
  unfold repL
  induction k.toNat with
  | zero => rfl
  | succ n ih => rw [List.replicate_succ, List.flatten_cons, ih]; rfl
/-! ### owned lists -/
section
variable {M : Mem} {Q : D → Mem → Prop} {own : Bool} {p : Addr} {fs : List D}
theorem p_ix {i : Int} : ixX (.ref p) (.int i) (put M p (.lst fs)) Q = getO (atI fs i) fun d => Q d (put M p (.lst fs)) := by
  rw [← getO_eq]
  refine propext ⟨fun h => ?_, fun ⟨d, h1, h2⟩ => .inl ⟨_, _, d, put_same, rfl, h1, h2⟩⟩
  rcases h with ⟨xs, i', d, h1, h2, h3, h4⟩ | ⟨d, h1, _⟩
  · rw [put_same] at h1; cases h1; cases h2; exact ⟨d, h3, h4⟩
  · unfold dlook at h1; rw [put_same] at h1; cases h1
theorem p_six {i : Int} {e : D} {Q : Mem → Prop} : sixX (put M p (.lst fs)) p (.int i) e Q = getO (ixN fs.length i) fun j => Q (put M p (.lst (fs.set j e))) := by
  rw [← getO_eq]
  refine propext ⟨fun h => ?_, fun ⟨d, h1, h2⟩ => .inl ⟨_, _, d, put_same, rfl, h1, by rw [put_put]; exact h2⟩⟩
  rcases h with ⟨xs, i', d, h1, h2, h3, h4⟩ | ⟨d, _, h1, _⟩
  · rw [put_same] at h1; cases h1; cases h2; rw [put_put] at h4; exact ⟨d, h3, h4⟩
  · rw [put_same] at h1; cases h1
theorem p_len : bltX own .len [.ref p] (put M p (.lst fs)) Q = Q (.int fs.length) (put M p (.lst fs)) := by
  refine propext ⟨fun h => ?_, fun h => .inl ⟨_, put_same, h⟩⟩
  rcases h with ⟨xs, h1, h2⟩ | ⟨kvs, h1, _⟩
  · rw [put_same] at h1; cases h1; exact h2
  · rw [put_same] at h1; cases h1
theorem p_tup : bltX own .tuple [.ref p] (put M p (.lst fs)) Q = Q (.tup fs) (put M p (.lst fs)) := by
  refine propext ⟨fun ⟨d, xs, h1, h2, h3⟩ => ?_, fun h => ⟨_, _, rfl, s_ref put_same, h⟩⟩
  cases h1; rw [s_ref put_same] at h2; cases h2; exact h3
theorem p_app {k : Mem → Prop} {d : D} (h : fs.length < sizeLine) (q : k (put M p (.lst (fs ++ [d])))) : ∃ xs, put M p (.lst fs) p = some (.lst xs) ∧ xs.length < sizeLine ∧ k (put (put M p (.lst fs)) p (.lst (xs ++ [d]))) := ⟨fs, put_same, h, by rw [put_put]; exact q⟩
/-! ### a list read through either form -/
theorem r_cases {d : D} (h : rs M d = .lst fs) : d = .lst fs ∨ ∃ a, d = .ref a ∧ M a = some (.lst fs) := by
  unfold rs at h
  cases d with
  | lst xs => exact .inl h
  | ref a =>
    dsimp only at h
    split at h
    · rename_i xs e; cases h; exact .inr ⟨_, rfl, e⟩
    · cases h
  | _ => cases h
theorem put_self {a : Addr} {o : MO} (h : M a = some o) : put M a o = M := by
  funext b
  unfold put
  split
  · subst b; exact h.symm
  · rfl
theorem rd_len {d : D} (h : rs M d = .lst fs) : bltX own .len [d] M Q = Q (.int fs.length) M := by
  rcases r_cases h with rfl | ⟨a, rfl, e⟩
  · exact v_lenL
  · rw [← put_self e]; exact p_len
theorem rd_ix {d : D} {i : Int} (h : rs M d = .lst fs) : ixX d (.int i) M Q = getO (atI fs i) fun d => Q d M := by
  rcases r_cases h with rfl | ⟨a, rfl, e⟩
  · exact v_ixL
  · rw [← put_self e]; exact p_ix
theorem rd_sl {d : D} {lo hi : Option Int} (h : rs M d = .lst fs) : slX own d lo hi M Q = newX own (cutD fs lo hi) M Q := by
  refine propext ⟨fun q => ?_, fun q => ?_⟩
  · rcases r_cases h with rfl | ⟨a, rfl, e⟩
    · rwa [v_slL] at q
    · obtain ⟨xs, h1 | h1, h2⟩ := q
      · cases h1
      · rw [h] at h1; cases h1; exact h2
  · rcases r_cases h with rfl | ⟨a, rfl, e⟩
    · rwa [v_slL]
    · exact ⟨_, .inr h, q⟩
theorem rd_lst {d : D} (h : rs M d = .lst fs) : bltX own .list [d] M Q = newX own fs M Q := by
  have e : seqOf M d = some fs := by
    rcases r_cases h with rfl | ⟨a, rfl, e⟩
    · rfl
    · exact s_ref e
  refine propext ⟨fun ⟨_, _, a, b, h⟩ => ?_, fun h => ⟨_, _, rfl, e, h⟩⟩
  cases a; rw [e] at b; cases b; exact h
end
/-! ### closed stores -/
mutual
theorem Cl.up {M M' : Mem} (h : ∀ a o, M a = some o → ∃ o', M' a = some o') : ∀ {d : D}, Cl M d → Cl M' d
  | _, .non => .non
  | _, .bl b => .bl b
  | _, .int i => .int i
  | _, .str x => .str x
  | _, .tup r => .tup (Cls.up h r)
  | _, .lst r => .lst (Cls.up h r)
  | _, .scr r => .scr (Cls.up h r)
  | _, .ref q => let ⟨_, e⟩ := h _ _ q; .ref e
  | _, .exn c a => .exn c a
theorem Cls.up {M M' : Mem} (h : ∀ a o, M a = some o → ∃ o', M' a = some o') : ∀ {ds : List D}, Cls M ds → Cls M' ds
  | _, .nil => .nil
  | _, .cons a r => .cons (Cl.up h a) (Cls.up h r)
end
theorem ClO.up {M M' : Mem} (h : ∀ a o, M a = some o → ∃ o', M' a = some o') {o : MO} (q : ClO M o) : ClO M' o := by
  cases o with
  | lst xs => exact Cls.up h q
  | dK xs => exact fun p m => (q p m).up h
  | dT xs => exact fun p m => (q p m).up h
  | xd xs => exact fun p m => (q p m).up h
theorem put_up {M : Mem} {a : Addr} {o : MO} : ∀ b u, M b = some u → ∃ o', put M a o b = some o' := fun b u e => by
  by_cases q : b = a
  · subst q; exact ⟨_, put_same⟩
  · exact ⟨u, by rw [put_ne q]; exact e⟩
theorem ClM.put {M : Mem} {a : Addr} {o : MO} (c : ClM M) (h : ClO (put M a o) o) : ClM (put M a o) := fun b u e => by
  by_cases q : b = a
  · subst q; rw [put_same] at e; cases e; exact h
  · rw [put_ne q] at e
    exact (c b u e).up put_up
/-! ### the state of draws -/
def St0 (ns : List Int) (t : Int) : MO := .dK [(.inr "numbers", li ns), (.inr "at", .int t)]
def Sta (o : MO) : Prop := ∃ ns t, o = St0 ns t ∧ 0 ≤ t ∧ 0 < ns.length ∧ ns.length ≤ 100000
theorem Sta.cl {M : Mem} {o : MO} (h : Sta o) : ClO M o := by
  obtain ⟨ns, t, rfl, _, _, _⟩ := h
  intro p m
  rcases List.mem_cons.mp m with rfl | m
  · exact .lst .ints
  · rcases List.mem_cons.mp m with rfl | m
    · exact .int _
    · cases m
section
variable {M : Mem} {Q : D → Mem → Prop} {p : Addr} {ns : List Int} {t : Int}
theorem st_numbers : ixX (.ref p) (.str "numbers") (put M p (St0 ns t)) Q = Q (li ns) (put M p (St0 ns t)) := by
  refine propext ⟨fun h => ?_, fun h => .inr ⟨_, by unfold dlook St0; rw [put_same]; rfl, h⟩⟩
  rcases h with ⟨xs, i', d, h1, h2, h3, h4⟩ | ⟨d, h1, h2⟩
  · cases h2
  · unfold dlook St0 at h1; rw [put_same] at h1; cases h1; exact h2
theorem st_at : ixX (.ref p) (.str "at") (put M p (St0 ns t)) Q = Q (.int t) (put M p (St0 ns t)) := by
  refine propext ⟨fun h => ?_, fun h => .inr ⟨_, by unfold dlook St0; rw [put_same]; rfl, h⟩⟩
  rcases h with ⟨xs, i', d, h1, h2, h3, h4⟩ | ⟨d, h1, h2⟩
  · cases h2
  · unfold dlook St0 at h1; rw [put_same] at h1; cases h1; exact h2
theorem st_six {u : Int} {Q : Mem → Prop} (h : Q (put M p (St0 ns u))) : sixX (put M p (St0 ns t)) p (.str "at") (.int u) Q :=
  .inr ⟨_, _, put_same, rfl, (by show 2 < sizeLine; decide), by rw [put_put]; exact h⟩
end
end DL
set_option Elab.async false
set_option linter.all false
set_option maxRecDepth 100000
set_option maxHeartbeats 0
namespace DL
open PySem PySem.Spec PyProof.Rows L2
def top (i : Nat) : Stmt := PySem.Challenge.pw_throwsagree_k27_whole_polynomials_of_who.main.body.getD i (.Pass ⟨0, 0, 0, 0⟩)
def N_is_whole : List Str := ["value"]
def ir_is_whole : ISs := (.cons (.ret (.and (.cons (.isi (.var 0) [.tint]) (.cons (.not (.isi (.var 0) [.tbool])) .nil)))) .nil)
theorem chk_is_whole : chkSs ⟨N_is_whole, (defScope (top 5)).names, [], [], false⟩ ir_is_whole (defBody (top 5)) = true := by decide +kernel
theorem sc_is_whole : FnScope N_is_whole ["value"] (defScope (top 5)) := ⟨rfl, rfl, rfl, by decide +kernel, rfl, by decide +kernel, by decide +kernel⟩
def N_divisor : List Str := ["one", "other"]
def ir_divisor : ISs := (.cons (.ret (.blt false .gcd (.cons (.var 0) (.cons (.var 1) .nil)))) .nil)
theorem chk_divisor : chkSs ⟨N_divisor, (defScope (top 6)).names, [], [], true⟩ ir_divisor (defBody (top 6)) = true := by decide +kernel
theorem sc_divisor : FnScope N_divisor ["one", "other"] (defScope (top 6)) := ⟨rfl, rfl, rfl, by decide +kernel, rfl, by decide +kernel, by decide +kernel⟩
def N_ratio : List Str := ["n", "d", "both"]
def ir_ratio : ISs := (.cons (.ite (.or (.cons (.not (.call 0 (.cons (.var 0) .nil))) (.cons (.not (.call 0 (.cons (.var 1) .nil))) (.cons (.cmp .eq (.var 1) (.cst (.int 0))) .nil)))) (.cons (.never) .nil) .nil) (.cons (.set 2 (.call 1 (.cons (.var 0) (.cons (.var 1) .nil)))) (.cons (.ite (.cmp .lt (.var 1) (.cst (.int 0))) (.cons (.set 2 (.neg (.var 2))) .nil) .nil) (.cons (.ret (.tup (.cons (.bin false .fdiv (.var 0) (.var 2)) (.cons (.bin false .fdiv (.var 1) (.var 2)) .nil)))) .nil))))
theorem chk_ratio : chkSs ⟨N_ratio, (defScope (top 7)).names, ["is_whole", "divisor"], [], false⟩ ir_ratio (defBody (top 7)) = true := by decide +kernel
theorem sc_ratio : FnScope N_ratio ["n", "d"] (defScope (top 7)) := ⟨rfl, rfl, rfl, by decide +kernel, rfl, by decide +kernel, by decide +kernel⟩
def N_whole_power : List Str := ["number", "many", "found", "base"]
def ir_whole_power : ISs := (.cons (.par 2 3 (.cst (.int 1)) (.var 0)) (.cons (.while (.cmp .gt (.var 1) (.cst (.int 0))) (.cons (.ite (.cmp .eq (.bin false .mod (.var 1) (.cst (.int 2))) (.cst (.int 1))) (.cons (.set 2 (.bin false .mul (.var 2) (.var 3))) .nil) .nil) (.cons (.par 3 1 (.bin false .mul (.var 3) (.var 3)) (.bin false .fdiv (.var 1) (.cst (.int 2)))) .nil))) (.cons (.ret (.var 2)) .nil)))
theorem chk_whole_power : chkSs ⟨N_whole_power, (defScope (top 8)).names, [], [], false⟩ ir_whole_power (defBody (top 8)) = true := by decide +kernel
theorem sc_whole_power : FnScope N_whole_power ["number", "many"] (defScope (top 8)) := ⟨rfl, rfl, rfl, by decide +kernel, rfl, by decide +kernel, by decide +kernel⟩
def N_is_poly : List Str := ["value", "one"]
def ir_is_poly : ISs := (.cons (.ite (.or (.cons (.not (.isi (.var 0) [.ttup])) (.cons (.not (.blt false .all (.cons (.lc false (.nm 1) (.call 0 (.cons (.var 1) .nil)) (.seq (.var 0)) .none) .nil))) .nil))) (.cons (.ret (.cst (.bl false))) .nil) .nil) (.cons (.ret (.or (.cons (.cmp .eq (.blt false .len (.cons (.var 0) .nil)) (.cst (.int 0))) (.cons (.cmp .ne (.ix (.var 0) (.neg (.cst (.int 1)))) (.cst (.int 0))) .nil)))) .nil))
theorem chk_is_poly : chkSs ⟨N_is_poly, (defScope (top 10)).names, ["is_whole"], [], false⟩ ir_is_poly (defBody (top 10)) = true := by decide +kernel
theorem sc_is_poly : FnScope N_is_poly ["value"] (defScope (top 10)) := ⟨rfl, rfl, rfl, by decide +kernel, rfl, by decide +kernel, by decide +kernel⟩
def N_trimmed : List Str := ["row", "last"]
def ir_trimmed : ISs := (.cons (.set 1 (.blt false .len (.cons (.var 0) .nil))) (.cons (.while (.and (.cons (.cmp .gt (.var 1) (.cst (.int 0))) (.cons (.cmp .eq (.ix (.var 0) (.bin false .sub (.var 1) (.cst (.int 1)))) (.cst (.int 0))) .nil))) (.cons (.set 1 (.bin false .sub (.var 1) (.cst (.int 1)))) .nil)) (.cons (.ret (.blt false .tuple (.cons (.sl false (.var 0) .none (.some (.var 1))) .nil))) .nil)))
theorem chk_trimmed : chkSs ⟨N_trimmed, (defScope (top 11)).names, [], [], false⟩ ir_trimmed (defBody (top 11)) = true := by decide +kernel
theorem sc_trimmed : FnScope N_trimmed ["row"] (defScope (top 11)) := ⟨rfl, rfl, rfl, by decide +kernel, rfl, by decide +kernel, by decide +kernel⟩
def N_at_number : List Str := ["poly", "k"]
def ir_at_number : ISs := (.cons (.ret (.ite (.cmp .lt (.var 1) (.blt false .len (.cons (.var 0) .nil))) (.ix (.var 0) (.var 1)) (.cst (.int 0)))) .nil)
theorem chk_at_number : chkSs ⟨N_at_number, (defScope (top 12)).names, [], [], false⟩ ir_at_number (defBody (top 12)) = true := by decide +kernel
theorem sc_at_number : FnScope N_at_number ["poly", "k"] (defScope (top 12)) := ⟨rfl, rfl, rfl, by decide +kernel, rfl, by decide +kernel, by decide +kernel⟩
def N_poly_added : List Str := ["one", "other", "k"]
def ir_poly_added : ISs := (.cons (.ret (.call 0 (.cons (.lc false (.nm 2) (.bin false .add (.call 1 (.cons (.var 0) (.cons (.var 2) .nil))) (.call 1 (.cons (.var 1) (.cons (.var 2) .nil)))) (.rng1 (.blt false .max2 (.cons (.blt false .len (.cons (.var 0) .nil)) (.cons (.blt false .len (.cons (.var 1) .nil)) .nil)))) .none) .nil))) .nil)
theorem chk_poly_added : chkSs ⟨N_poly_added, (defScope (top 13)).names, ["trimmed", "at_number"], [], false⟩ ir_poly_added (defBody (top 13)) = true := by decide +kernel
theorem sc_poly_added : FnScope N_poly_added ["one", "other"] (defScope (top 13)) := ⟨rfl, rfl, rfl, by decide +kernel, rfl, by decide +kernel, by decide +kernel⟩
def N_poly_scaled : List Str := ["poly", "n", "one"]
def ir_poly_scaled : ISs := (.cons (.ret (.call 0 (.cons (.lc false (.nm 2) (.bin false .mul (.var 1) (.var 2)) (.seq (.var 0)) .none) .nil))) .nil)
theorem chk_poly_scaled : chkSs ⟨N_poly_scaled, (defScope (top 14)).names, ["trimmed"], [], false⟩ ir_poly_scaled (defBody (top 14)) = true := by decide +kernel
theorem sc_poly_scaled : FnScope N_poly_scaled ["poly", "n"] (defScope (top 14)) := ⟨rfl, rfl, rfl, by decide +kernel, rfl, by decide +kernel, by decide +kernel⟩
def N_poly_taken : List Str := ["one", "other"]
def ir_poly_taken : ISs := (.cons (.ret (.call 0 (.cons (.var 0) (.cons (.call 1 (.cons (.var 1) (.cons (.neg (.cst (.int 1))) .nil))) .nil)))) .nil)
theorem chk_poly_taken : chkSs ⟨N_poly_taken, (defScope (top 15)).names, ["poly_added", "poly_scaled"], [], false⟩ ir_poly_taken (defBody (top 15)) = true := by decide +kernel
theorem sc_poly_taken : FnScope N_poly_taken ["one", "other"] (defScope (top 15)) := ⟨rfl, rfl, rfl, by decide +kernel, rfl, by decide +kernel, by decide +kernel⟩
def N_poly_times : List Str := ["one", "other", "found", "k", "j"]
def ir_poly_times : ISs := (.cons (.set 2 (.bin true .mul (.lst false (.cons (.cst (.int 0)) .nil)) (.bin false .add (.blt false .len (.cons (.var 0) .nil)) (.blt false .len (.cons (.var 1) .nil))))) (.cons (.for (.nm 3) (.rng1 (.blt false .len (.cons (.var 0) .nil))) (.cons (.for (.nm 4) (.rng1 (.blt false .len (.cons (.var 1) .nil))) (.cons (.six (.var 2) (.bin false .add (.var 3) (.var 4)) (.bin false .add (.ix (.var 2) (.bin false .add (.var 3) (.var 4))) (.bin false .mul (.ix (.var 0) (.var 3)) (.ix (.var 1) (.var 4))))) .nil)) .nil)) (.cons (.ret (.call 0 (.cons (.var 2) .nil))) .nil)))
theorem chk_poly_times : chkSs ⟨N_poly_times, (defScope (top 16)).names, ["trimmed"], [], false⟩ ir_poly_times (defBody (top 16)) = true := by decide +kernel
theorem sc_poly_times : FnScope N_poly_times ["one", "other"] (defScope (top 16)) := ⟨rfl, rfl, rfl, by decide +kernel, rfl, by decide +kernel, by decide +kernel⟩
def N_poly_raised : List Str := ["poly", "k", "found", "turn"]
def ir_poly_raised : ISs := (.cons (.set 2 (.tup (.cons (.cst (.int 1)) .nil))) (.cons (.for (.nm 3) (.rng1 (.var 1)) (.cons (.set 2 (.call 0 (.cons (.var 2) (.cons (.var 0) .nil)))) .nil)) (.cons (.ret (.var 2)) .nil)))
theorem chk_poly_raised : chkSs ⟨N_poly_raised, (defScope (top 17)).names, ["poly_times"], [], false⟩ ir_poly_raised (defBody (top 17)) = true := by decide +kernel
theorem sc_poly_raised : FnScope N_poly_raised ["poly", "k"] (defScope (top 17)) := ⟨rfl, rfl, rfl, by decide +kernel, rfl, by decide +kernel, by decide +kernel⟩
def N_slope : List Str := ["poly", "k"]
def ir_slope : ISs := (.cons (.ret (.call 0 (.cons (.lc false (.nm 1) (.bin false .mul (.var 1) (.ix (.var 0) (.var 1))) (.rng2 (.cst (.int 1)) (.blt false .len (.cons (.var 0) .nil))) .none) .nil))) .nil)
theorem chk_slope : chkSs ⟨N_slope, (defScope (top 18)).names, ["trimmed"], [], false⟩ ir_slope (defBody (top 18)) = true := by decide +kernel
theorem sc_slope : FnScope N_slope ["poly"] (defScope (top 18)) := ⟨rfl, rfl, rfl, by decide +kernel, rfl, by decide +kernel, by decide +kernel⟩
def N_content : List Str := ["poly", "found", "one"]
def ir_content : ISs := (.cons (.set 1 (.cst (.int 0))) (.cons (.for (.nm 2) (.seq (.var 0)) (.cons (.set 1 (.call 0 (.cons (.var 1) (.cons (.var 2) .nil)))) .nil)) (.cons (.ret (.ite (.and (.cons (.cmp .gt (.blt false .len (.cons (.var 0) .nil)) (.cst (.int 0))) (.cons (.cmp .lt (.ix (.var 0) (.neg (.cst (.int 1)))) (.cst (.int 0))) .nil))) (.neg (.var 1)) (.var 1))) .nil)))
theorem chk_content : chkSs ⟨N_content, (defScope (top 19)).names, ["divisor"], [], false⟩ ir_content (defBody (top 19)) = true := by decide +kernel
theorem sc_content : FnScope N_content ["poly"] (defScope (top 19)) := ⟨rfl, rfl, rfl, by decide +kernel, rfl, by decide +kernel, by decide +kernel⟩
def N_plain_part : List Str := ["poly", "by", "one"]
def ir_plain_part : ISs := (.cons (.set 1 (.call 0 (.cons (.var 0) .nil))) (.cons (.ret (.blt false .tuple (.cons (.lc false (.nm 2) (.bin false .fdiv (.var 2) (.var 1)) (.seq (.var 0)) .none) .nil))) .nil))
theorem chk_plain_part : chkSs ⟨N_plain_part, (defScope (top 20)).names, ["content"], [], false⟩ ir_plain_part (defBody (top 20)) = true := by decide +kernel
theorem sc_plain_part : FnScope N_plain_part ["poly"] (defScope (top 20)) := ⟨rfl, rfl, rfl, by decide +kernel, rfl, by decide +kernel, by decide +kernel⟩
def N_poly_at : List Str := ["poly", "place", "top", "n", "d", "k"]
def ir_poly_at : ISs := (.cons (.par3 2 3 4 (.cst (.int 0)) (.ix (.var 1) (.cst (.int 0))) (.ix (.var 1) (.cst (.int 1)))) (.cons (.for (.nm 5) (.rng1 (.blt false .len (.cons (.var 0) .nil))) (.cons (.set 2 (.bin false .add (.var 2) (.bin false .mul (.bin false .mul (.ix (.var 0) (.var 5)) (.call 0 (.cons (.var 3) (.cons (.var 5) .nil)))) (.call 0 (.cons (.var 4) (.cons (.bin false .sub (.bin false .sub (.blt false .len (.cons (.var 0) .nil)) (.cst (.int 1))) (.var 5)) .nil)))))) .nil)) (.cons (.ret (.call 1 (.cons (.var 2) (.cons (.call 0 (.cons (.var 4) (.cons (.blt false .max2 (.cons (.bin false .sub (.blt false .len (.cons (.var 0) .nil)) (.cst (.int 1))) (.cons (.cst (.int 0)) .nil))) .nil))) .nil)))) .nil)))
theorem chk_poly_at : chkSs ⟨N_poly_at, (defScope (top 21)).names, ["whole_power", "ratio"], [], false⟩ ir_poly_at (defBody (top 21)) = true := by decide +kernel
theorem sc_poly_at : FnScope N_poly_at ["poly", "place"] (defScope (top 21)) := ⟨rfl, rfl, rfl, by decide +kernel, rfl, by decide +kernel, by decide +kernel⟩
def N__law_draws : List Str := ["cells", "numbers", "cell", "seed", "k", "mixed"]
def ir__law_draws : ISs := (.cons (.set 1 (.lst true .nil)) (.cons (.for (.nm 2) (.seq (.var 0)) (.cons (.set 3 (.bin false .mod (.blt false .toint (.cons (.var 2) .nil)) (.cst (.int 2147483647)))) (.cons (.for (.nm 4) (.rng1 (.cst (.int 40))) (.cons (.set 3 (.bin false .mod (.blt false .toint (.cons (.bin false .add (.bin false .add (.bin false .mul (.var 3) (.cst (.int 48271))) (.cst (.int 12345))) (.var 4)) .nil)) (.cst (.int 2147483647)))) (.cons (.set 5 (.bin false .mod (.blt false .toint (.cons (.bin false .add (.bin false .mul (.var 3) (.cst (.int 69621))) (.bin false .mul (.cst (.int 977)) (.var 4))) .nil)) (.cst (.int 2147483629)))) (.cons (.app (.var 1) (.ite (.cmp .ge (.var 2) (.bin false .pow (.cst (.int 10)) (.cst (.int 18)))) (.bin false .mod (.blt false .toint (.cons (.var 2) .nil)) (.cst (.int 1048576))) (.bin false .mod (.blt false .toint (.cons (.bin false .fdiv (.var 5) (.cst (.int 3))) .nil)) (.cst (.int 1048576))))) (.cons (.set 2 (.ite (.cmp .ge (.var 2) (.bin false .pow (.cst (.int 10)) (.cst (.int 18)))) (.bin false .fdiv (.var 2) (.cst (.int 1048576))) (.var 2))) .nil))))) .nil))) (.cons (.ret (.disp ["numbers", "at"] (.cons (.var 1) (.cons (.cst (.int 0)) .nil)))) .nil)))
theorem chk__law_draws : chkSs ⟨N__law_draws, (defScope (top 23)).names, [], [], false⟩ ir__law_draws (defBody (top 23)) = true := by decide +kernel
theorem sc__law_draws : FnScope N__law_draws ["cells"] (defScope (top 23)) := ⟨rfl, rfl, rfl, by decide +kernel, rfl, by decide +kernel, by decide +kernel⟩
def N__law_next : List Str := ["state", "bound", "number"]
def ir__law_next : ISs := (.cons (.set 2 (.bin false .add (.ix (.ix (.var 0) (.cst (.str "numbers"))) (.bin false .mod (.blt false .toint (.cons (.ix (.var 0) (.cst (.str "at"))) .nil)) (.blt false .len (.cons (.ix (.var 0) (.cst (.str "numbers"))) .nil)))) (.bin false .fdiv (.blt false .toint (.cons (.ix (.var 0) (.cst (.str "at"))) .nil)) (.blt false .len (.cons (.ix (.var 0) (.cst (.str "numbers"))) .nil))))) (.cons (.six (.var 0) (.cst (.str "at")) (.bin false .add (.ix (.var 0) (.cst (.str "at"))) (.cst (.int 1)))) (.cons (.ret (.bin false .mod (.blt false .toint (.cons (.var 2) .nil)) (.var 1))) .nil)))
theorem chk__law_next : chkSs ⟨N__law_next, (defScope (top 24)).names, [], [], false⟩ ir__law_next (defBody (top 24)) = true := by decide +kernel
theorem sc__law_next : FnScope N__law_next ["state", "bound"] (defScope (top 24)) := ⟨rfl, rfl, rfl, by decide +kernel, rfl, by decide +kernel, by decide +kernel⟩
def N__law_pick : List Str := ["state", "things"]
def ir__law_pick : ISs := (.cons (.ret (.ix (.var 1) (.call 0 (.cons (.var 0) (.cons (.blt false .len (.cons (.var 1) .nil)) .nil))))) .nil)
theorem chk__law_pick : chkSs ⟨N__law_pick, (defScope (top 25)).names, ["_law_next"], [], false⟩ ir__law_pick (defBody (top 25)) = true := by decide +kernel
theorem sc__law_pick : FnScope N__law_pick ["state", "things"] (defScope (top 25)) := ⟨rfl, rfl, rfl, by decide +kernel, rfl, by decide +kernel, by decide +kernel⟩
def N__law_same : List Str := ["one", "other", "key", "k"]
def ir__law_same : ISs := (.cons (.ite (.and (.cons (.isi (.var 0) [.tdict]) (.cons (.isi (.var 1) [.tdict]) .nil))) (.cons (.ret (.and (.cons (.cmp .eq (.blt false .len (.cons (.var 0) .nil)) (.blt false .len (.cons (.var 1) .nil))) (.cons (.blt false .all (.cons (.lc false (.nm 2) (.and (.cons (.cmp .isin (.var 2) (.var 1)) (.cons (.call 0 (.cons (.ix (.var 0) (.var 2)) (.cons (.ix (.var 1) (.var 2)) .nil))) .nil))) (.seq (.var 0)) .none) .nil)) .nil)))) .nil) .nil) (.cons (.ite (.and (.cons (.isi (.var 0) [.tlist, .ttup]) (.cons (.isi (.var 1) [.tlist, .ttup]) .nil))) (.cons (.ite (.or (.cons (.cmp .ne (.isi (.var 0) [.tlist]) (.isi (.var 1) [.tlist])) (.cons (.cmp .ne (.blt false .len (.cons (.var 0) .nil)) (.blt false .len (.cons (.var 1) .nil))) .nil))) (.cons (.ret (.cst (.bl false))) .nil) .nil) (.cons (.ret (.blt false .all (.cons (.lc false (.nm 3) (.call 0 (.cons (.ix (.var 0) (.var 3)) (.cons (.ix (.var 1) (.var 3)) .nil))) (.rng1 (.blt false .len (.cons (.var 0) .nil))) .none) .nil))) .nil)) .nil) (.cons (.ite (.or (.cons (.isi (.var 0) [.tlist, .ttup, .tdict]) (.cons (.isi (.var 1) [.tlist, .ttup, .tdict]) .nil))) (.cons (.ret (.cst (.bl false))) .nil) .nil) (.cons (.ite (.or (.cons (.isN false (.var 0)) (.cons (.isN false (.var 1)) .nil))) (.cons (.ret (.and (.cons (.isN false (.var 0)) (.cons (.isN false (.var 1)) .nil)))) .nil) .nil) (.cons (.ite (.or (.cons (.cmp .ne (.isi (.var 0) [.tbool]) (.isi (.var 1) [.tbool])) (.cons (.cmp .ne (.isi (.var 0) [.tint]) (.isi (.var 1) [.tint])) .nil))) (.cons (.ret (.cst (.bl false))) .nil) .nil) (.cons (.ite (.cmp .ne (.isi (.var 0) [.tstr]) (.isi (.var 1) [.tstr])) (.cons (.ret (.cst (.bl false))) .nil) .nil) (.cons (.ret (.cmp .eq (.var 0) (.var 1))) .nil)))))))
theorem chk__law_same : chkSs ⟨N__law_same, (defScope (top 26)).names, ["_law_same"], [], false⟩ ir__law_same (defBody (top 26)) = true := by decide +kernel
theorem sc__law_same : FnScope N__law_same ["one", "other"] (defScope (top 26)) := ⟨rfl, rfl, rfl, by decide +kernel, rfl, by decide +kernel, by decide +kernel⟩
def N__law_gcd : List Str := ["one", "other"]
def ir__law_gcd : ISs := (.cons (.par 0 1 (.blt false .abs (.cons (.var 0) .nil)) (.blt false .abs (.cons (.var 1) .nil))) (.cons (.while (.cmp .gt (.var 1) (.cst (.int 0))) (.cons (.par 0 1 (.var 1) (.bin false .mod (.blt false .toint (.cons (.var 0) .nil)) (.var 1))) .nil)) (.cons (.ret (.var 0)) .nil)))
theorem chk__law_gcd : chkSs ⟨N__law_gcd, (defScope (top 27)).names, [], [], false⟩ ir__law_gcd (defBody (top 27)) = true := by decide +kernel
theorem sc__law_gcd : FnScope N__law_gcd ["one", "other"] (defScope (top 27)) := ⟨rfl, rfl, rfl, by decide +kernel, rfl, by decide +kernel, by decide +kernel⟩
def N__law_low : List Str := ["n", "d", "by"]
def ir__law_low : ISs := (.cons (.set 2 (.ite (.cmp .gt (.var 1) (.cst (.int 0))) (.call 0 (.cons (.var 0) (.cons (.var 1) .nil))) (.neg (.call 0 (.cons (.var 0) (.cons (.var 1) .nil)))))) (.cons (.ret (.tup (.cons (.bin false .fdiv (.var 0) (.var 2)) (.cons (.bin false .fdiv (.var 1) (.var 2)) .nil)))) .nil))
theorem chk__law_low : chkSs ⟨N__law_low, (defScope (top 28)).names, ["_law_gcd"], [], false⟩ ir__law_low (defBody (top 28)) = true := by decide +kernel
theorem sc__law_low : FnScope N__law_low ["n", "d"] (defScope (top 28)) := ⟨rfl, rfl, rfl, by decide +kernel, rfl, by decide +kernel, by decide +kernel⟩
def N__law_trimmed : List Str := ["row"]
def ir__law_trimmed : ISs := (.cons (.set 0 (.blt true .list (.cons (.var 0) .nil))) (.cons (.while (.and (.cons (.cmp .gt (.blt false .len (.cons (.var 0) .nil)) (.cst (.int 0))) (.cons (.cmp .eq (.ix (.var 0) (.neg (.cst (.int 1)))) (.cst (.int 0))) .nil))) (.cons (.exp (.pop (.var 0))) .nil)) (.cons (.ret (.blt false .tuple (.cons (.var 0) .nil))) .nil)))
theorem chk__law_trimmed : chkSs ⟨N__law_trimmed, (defScope (top 29)).names, [], [], false⟩ ir__law_trimmed (defBody (top 29)) = true := by decide +kernel
theorem sc__law_trimmed : FnScope N__law_trimmed ["row"] (defScope (top 29)) := ⟨rfl, rfl, rfl, by decide +kernel, rfl, by decide +kernel, by decide +kernel⟩
def N__law_product : List Str := ["one", "other", "found", "k", "j"]
def ir__law_product : ISs := (.cons (.set 2 (.bin true .mul (.lst false (.cons (.cst (.int 0)) .nil)) (.bin false .add (.blt false .len (.cons (.var 0) .nil)) (.blt false .len (.cons (.var 1) .nil))))) (.cons (.for (.nm 3) (.rng1 (.blt false .len (.cons (.var 0) .nil))) (.cons (.for (.nm 4) (.rng1 (.blt false .len (.cons (.var 1) .nil))) (.cons (.six (.var 2) (.bin false .add (.var 3) (.var 4)) (.bin false .add (.ix (.var 2) (.bin false .add (.var 3) (.var 4))) (.bin false .mul (.ix (.var 0) (.var 3)) (.ix (.var 1) (.var 4))))) .nil)) .nil)) (.cons (.ret (.call 0 (.cons (.var 2) .nil))) .nil)))
theorem chk__law_product : chkSs ⟨N__law_product, (defScope (top 30)).names, ["_law_trimmed"], [], false⟩ ir__law_product (defBody (top 30)) = true := by decide +kernel
theorem sc__law_product : FnScope N__law_product ["one", "other"] (defScope (top 30)) := ⟨rfl, rfl, rfl, by decide +kernel, rfl, by decide +kernel, by decide +kernel⟩
def N__law_value : List Str := ["poly", "n", "d", "top", "below", "number"]
def ir__law_value : ISs := (.cons (.unp (.tu [3, 4]) (.tup (.cons (.cst (.int 0)) (.cons (.cst (.int 1)) .nil)))) (.cons (.for (.nm 5) (.seq (.rev false (.var 0))) (.cons (.par 3 4 (.bin false .add (.bin false .mul (.var 3) (.var 1)) (.bin false .mul (.bin false .mul (.var 5) (.var 4)) (.var 2))) (.bin false .mul (.var 4) (.var 2))) .nil)) (.cons (.ret (.tup (.cons (.var 3) (.cons (.var 4) .nil)))) .nil)))
theorem chk__law_value : chkSs ⟨N__law_value, (defScope (top 31)).names, [], [], false⟩ ir__law_value (defBody (top 31)) = true := by decide +kernel
theorem sc__law_value : FnScope N__law_value ["poly", "n", "d"] (defScope (top 31)) := ⟨rfl, rfl, rfl, by decide +kernel, rfl, by decide +kernel, by decide +kernel⟩
def N__law_poly : List Str := ["state", "by", "wide", "k"]
def ir__law_poly : ISs := (.cons (.unp (.tu [1, 2]) (.tup (.cons (.call 0 (.cons (.var 0) (.cons (.lst false (.cons (.cst (.int 1)) (.cons (.cst (.int 1)) (.cons (.cst (.int 2)) (.cons (.cst (.int 6)) (.cons (.neg (.cst (.int 3))) .nil)))))) .nil))) (.cons (.call 0 (.cons (.var 0) (.cons (.lst false (.cons (.cst (.int 2)) (.cons (.cst (.int 5)) (.cons (.cst (.int 1000)) .nil)))) .nil))) .nil)))) (.cons (.ret (.call 1 (.cons (.lc false (.nm 3) (.bin false .mul (.var 1) (.bin false .sub (.call 2 (.cons (.var 0) (.cons (.bin false .add (.bin false .mul (.cst (.int 2)) (.var 2)) (.cst (.int 1))) .nil))) (.var 2))) (.rng1 (.call 2 (.cons (.var 0) (.cons (.cst (.int 9)) .nil)))) .none) .nil))) .nil))
theorem chk__law_poly : chkSs ⟨N__law_poly, (defScope (top 32)).names, ["_law_pick", "_law_trimmed", "_law_next"], [], false⟩ ir__law_poly (defBody (top 32)) = true := by decide +kernel
theorem sc__law_poly : FnScope N__law_poly ["state"] (defScope (top 32)) := ⟨rfl, rfl, rfl, by decide +kernel, rfl, by decide +kernel, by decide +kernel⟩
def N__law_at : List Str := ["poly", "k"]
def ir__law_at : ISs := (.cons (.ret (.ite (.cmp .lt (.var 1) (.blt false .len (.cons (.var 0) .nil))) (.ix (.var 0) (.var 1)) (.cst (.int 0)))) .nil)
theorem chk__law_at : chkSs ⟨N__law_at, (defScope (top 33)).names, [], [], false⟩ ir__law_at (defBody (top 33)) = true := by decide +kernel
theorem sc__law_at : FnScope N__law_at ["poly", "k"] (defScope (top 33)) := ⟨rfl, rfl, rfl, by decide +kernel, rfl, by decide +kernel, by decide +kernel⟩
def N__law_content : List Str := ["poly", "by", "number"]
def ir__law_content : ISs := (.cons (.set 1 (.cst (.int 0))) (.cons (.for (.nm 2) (.seq (.var 0)) (.cons (.set 1 (.call 0 (.cons (.var 1) (.cons (.var 2) .nil)))) .nil)) (.cons (.ret (.ite (.and (.cons (.cmp .gt (.blt false .len (.cons (.var 0) .nil)) (.cst (.int 0))) (.cons (.cmp .lt (.ix (.var 0) (.neg (.cst (.int 1)))) (.cst (.int 0))) .nil))) (.neg (.var 1)) (.var 1))) .nil)))
theorem chk__law_content : chkSs ⟨N__law_content, (defScope (top 34)).names, ["_law_gcd"], [], false⟩ ir__law_content (defBody (top 34)) = true := by decide +kernel
theorem sc__law_content : FnScope N__law_content ["poly"] (defScope (top 34)) := ⟨rfl, rfl, rfl, by decide +kernel, rfl, by decide +kernel, by decide +kernel⟩
def N__law_is : List Str := ["value", "one"]
def ir__law_is : ISs := (.cons (.ite (.not (.isi (.var 0) [.ttup])) (.cons (.ret (.cst (.bl false))) .nil) .nil) (.cons (.for (.nm 1) (.seq (.var 0)) (.cons (.ite (.or (.cons (.not (.isi (.var 1) [.tint])) (.cons (.isi (.var 1) [.tbool]) .nil))) (.cons (.ret (.cst (.bl false))) .nil) .nil) .nil)) (.cons (.ret (.or (.cons (.cmp .eq (.blt false .len (.cons (.var 0) .nil)) (.cst (.int 0))) (.cons (.cmp .ne (.ix (.var 0) (.neg (.cst (.int 1)))) (.cst (.int 0))) .nil)))) .nil)))
theorem chk__law_is : chkSs ⟨N__law_is, (defScope (top 35)).names, [], [], false⟩ ir__law_is (defBody (top 35)) = true := by decide +kernel
theorem sc__law_is : FnScope N__law_is ["value"] (defScope (top 35)) := ⟨rfl, rfl, rfl, by decide +kernel, rfl, by decide +kernel, by decide +kernel⟩
def N_law : List Str := ["script", "state", "turn", "one", "other", "number", "wide", "n", "many", "power", "step", "k", "due", "told", "more", "place", "top", "below", "at", "value"]
def ir_law : ISs := (.cons (.set 1 (.call 0 (.cons (.bin false .add (.sl false (.var 0) .none (.some (.cst (.int 24)))) (.lst false (.cons (.cst (.int 109)) .nil))) .nil))) (.cons (.for (.nm 2) (.rng1 (.cst (.int 5))) (.cons (.unp (.tu [3, 4]) (.tup (.cons (.call 1 (.cons (.var 1) .nil)) (.cons (.call 1 (.cons (.var 1) .nil)) .nil)))) (.cons (.set 4 (.ite (.cmp .eq (.call 2 (.cons (.var 1) (.cons (.cst (.int 6)) .nil))) (.cst (.int 0))) (.blt false .tuple (.cons (.lc false (.nm 5) (.neg (.var 5)) (.seq (.var 3)) .none) .nil)) (.var 4))) (.cons (.unp (.tu [6, 7]) (.tup (.cons (.blt false .max2 (.cons (.blt false .len (.cons (.var 3) .nil)) (.cons (.blt false .len (.cons (.var 4) .nil)) .nil))) (.cons (.bin false .sub (.call 2 (.cons (.var 1) (.cons (.cst (.int 9)) .nil))) (.cst (.int 4))) .nil)))) (.cons (.par 8 9 (.call 2 (.cons (.var 1) (.cons (.cst (.int 5)) .nil))) (.tup (.cons (.cst (.int 1)) .nil))) (.cons (.for (.nm 10) (.rng1 (.var 8)) (.cons (.set 9 (.call 3 (.cons (.var 9) (.cons (.var 3) .nil)))) .nil)) (.cons (.set 12 (.lst false (.cons (.call 4 (.cons (.lc false (.nm 11) (.bin false .add (.call 5 (.cons (.var 3) (.cons (.var 11) .nil))) (.call 5 (.cons (.var 4) (.cons (.var 11) .nil)))) (.rng1 (.var 6)) .none) .nil)) (.cons (.call 4 (.cons (.lc false (.nm 11) (.bin false .sub (.call 5 (.cons (.var 3) (.cons (.var 11) .nil))) (.call 5 (.cons (.var 4) (.cons (.var 11) .nil)))) (.rng1 (.var 6)) .none) .nil)) (.cons (.call 3 (.cons (.var 3) (.cons (.var 4) .nil))) .nil))))) (.cons (.set 12 (.bin false .add (.var 12) (.lst false (.cons (.var 9) (.cons (.call 4 (.cons (.lc false (.nm 5) (.bin false .mul (.var 7) (.var 5)) (.seq (.var 3)) .none) .nil)) (.cons (.call 4 (.cons (.lc false (.nm 11) (.bin false .mul (.var 11) (.ix (.var 3) (.var 11))) (.rng2 (.cst (.int 1)) (.blt false .len (.cons (.var 3) .nil))) .none) .nil)) (.cons (.call 6 (.cons (.var 3) .nil)) .nil))))))) (.cons (.set 13 (.lst false (.cons (.call 7 (.cons (.var 3) (.cons (.var 4) .nil))) (.cons (.call 8 (.cons (.var 3) (.cons (.var 4) .nil))) (.cons (.call 9 (.cons (.var 3) (.cons (.var 4) .nil))) (.cons (.call 10 (.cons (.var 3) (.cons (.var 8) .nil))) (.cons (.call 11 (.cons (.var 3) (.cons (.var 7) .nil))) (.cons (.call 12 (.cons (.var 3) .nil)) (.cons (.call 13 (.cons (.var 3) .nil)) .nil))))))))) (.cons (.ite (.not (.call 14 (.cons (.var 13) (.cons (.var 12) .nil)))) (.cons (.ret (.cst (.bl false))) .nil) .nil) (.cons (.ite (.and (.cons (.cmp .gt (.blt false .len (.cons (.var 3) .nil)) (.cst (.int 0))) (.cons (.not (.call 14 (.cons (.lst false (.cons (.call 15 (.cons (.var 3) .nil)) (.cons (.call 15 (.cons (.call 11 (.cons (.var 3) (.cons (.neg (.cst (.int 6))) .nil))) .nil)) .nil))) (.cons (.bin false .mul (.lst false (.cons (.blt false .tuple (.cons (.lc false (.nm 5) (.bin false .fdiv (.var 5) (.call 6 (.cons (.var 3) .nil))) (.seq (.var 3)) .none) .nil)) .nil)) (.cst (.int 2))) .nil)))) .nil))) (.cons (.ret (.cst (.bl false))) .nil) .nil) (.cons (.for (.nm 14) (.rng1 (.cst (.int 3))) (.cons (.set 15 (.call 16 (.cons (.bin false .sub (.call 2 (.cons (.var 1) (.cons (.cst (.int 25)) .nil))) (.cst (.int 12))) (.cons (.bin false .add (.cst (.int 1)) (.call 2 (.cons (.var 1) (.cons (.cst (.int 12)) .nil)))) .nil)))) (.cons (.unp (.tu [16, 17]) (.call 17 (.cons (.var 3) (.cons (.ix (.var 15) (.cst (.int 0))) (.cons (.ix (.var 15) (.cst (.int 1))) .nil))))) (.cons (.ite (.not (.call 14 (.cons (.call 18 (.cons (.var 3) (.cons (.var 15) .nil))) (.cons (.call 16 (.cons (.var 16) (.cons (.var 17) .nil))) .nil)))) (.cons (.ret (.cst (.bl false))) .nil) .nil) .nil)))) (.cons (.set 18 (.call 2 (.cons (.var 1) (.cons (.bin false .add (.blt false .len (.cons (.var 3) .nil)) (.cst (.int 1))) .nil)))) (.cons (.for (.nm 19) (.seq (.lst false (.cons (.bin false .add (.bin false .add (.sl false (.var 3) .none (.some (.var 18))) (.tup (.cons (.call 19 (.cons (.var 1) (.cons (.lst false (.cons (.cst (.bl true)) (.cons (.cst .non) (.cons (.cst (.str "1")) (.cons (.cst (.int 0)) (.cons (.cst (.int 7)) .nil)))))) .nil))) .nil))) (.sl false (.var 3) (.some (.bin false .add (.var 18) (.cst (.int 1)))) .none)) (.cons (.bin false .add (.var 3) (.tup (.cons (.cst (.int 0)) .nil))) (.cons (.blt false .list (.cons (.var 3) .nil)) (.cons (.cst .non) (.cons (.cst (.int 5)) (.cons (.var 3) .nil)))))))) (.cons (.ite (.cmp .ne (.call 20 (.cons (.var 19) .nil)) (.call 21 (.cons (.var 19) .nil))) (.cons (.ret (.cst (.bl false))) .nil) .nil) .nil)) .nil)))))))))))))) (.cons (.set 13 (.lst false (.cons (.call 9 (.cons (.tup (.cons (.cst (.int 1)) (.cons (.cst (.int 1)) .nil))) (.cons (.tup (.cons (.cst (.int 1)) (.cons (.neg (.cst (.int 1))) .nil))) .nil))) (.cons (.call 12 (.cons (.tup (.cons (.cst (.int 5)) (.cons (.cst (.int 0)) (.cons (.cst (.int 3)) .nil)))) .nil)) (.cons (.call 13 (.cons (.tup (.cons (.cst (.int 4)) (.cons (.neg (.cst (.int 6))) .nil))) .nil)) (.cons (.call 15 (.cons (.tup (.cons (.cst (.int 4)) (.cons (.neg (.cst (.int 6))) .nil))) .nil)) (.cons (.call 18 (.cons (.tup (.cons (.cst (.int 1)) (.cons (.neg (.cst (.int 4))) (.cons (.cst (.int 2)) .nil)))) (.cons (.tup (.cons (.cst (.int 1)) (.cons (.cst (.int 4)) .nil))) .nil))) .nil))))))) (.cons (.set 13 (.bin false .add (.var 13) (.lst false (.cons (.call 18 (.cons (.tup .nil) (.cons (.tup (.cons (.cst (.int 1)) (.cons (.cst (.int 2)) .nil))) .nil))) (.cons (.call 10 (.cons (.tup .nil) (.cons (.cst (.int 0)) .nil))) (.cons (.call 8 (.cons (.tup (.cons (.cst (.int 1)) (.cons (.cst (.int 2)) .nil))) (.cons (.tup (.cons (.cst (.int 1)) (.cons (.cst (.int 2)) .nil))) .nil))) (.cons (.call 13 (.cons (.tup .nil) .nil)) .nil))))))) (.cons (.ret (.call 14 (.cons (.var 13) (.cons (.lst false (.cons (.tup (.cons (.cst (.int 1)) (.cons (.cst (.int 0)) (.cons (.neg (.cst (.int 1))) .nil)))) (.cons (.tup (.cons (.cst (.int 0)) (.cons (.cst (.int 6)) .nil))) (.cons (.neg (.cst (.int 2))) (.cons (.tup (.cons (.neg (.cst (.int 2))) (.cons (.cst (.int 3)) .nil))) (.cons (.tup (.cons (.cst (.int 1)) (.cons (.cst (.int 8)) .nil))) (.cons (.tup (.cons (.cst (.int 0)) (.cons (.cst (.int 1)) .nil))) (.cons (.tup (.cons (.cst (.int 1)) .nil)) (.cons (.tup .nil) (.cons (.cst (.int 0)) .nil)))))))))) .nil)))) .nil)))))
theorem chk_law : chkSs ⟨N_law, (defScope (top 36)).names, ["_law_draws", "_law_poly", "_law_next", "_law_product", "_law_trimmed", "_law_at", "_law_content", "poly_added", "poly_taken", "poly_times", "poly_raised", "poly_scaled", "slope", "content", "_law_same", "plain_part", "_law_low", "_law_value", "poly_at", "_law_pick", "is_poly", "_law_is"], [], false⟩ ir_law (defBody (top 36)) = true := by decide +kernel
theorem sc_law : FnScope N_law ["script"] (defScope (top 36)) := ⟨rfl, rfl, rfl, by decide +kernel, rfl, by decide +kernel, by decide +kernel⟩
end DL
set_option Elab.async false
set_option linter.all false
set_option maxRecDepth 100000
set_option maxHeartbeats 4000000
namespace DL
open PySem PySem.Spec PyProof.Rows L2
theorem Ext_r {M : Mem} : Ext M M = True := eq_true .refl
/-! ### lists of numbers -/
def trim (xs : List Int) : List Int := (xs.reverse.dropWhile fun a => a == 0).reverse
theorem trim_nil : trim [] = [] := rfl
theorem trim_zero {xs : List Int} : trim (xs ++ [0]) = trim xs := by simp [trim]
theorem trim_last {xs : List Int} {a : Int} (h : a ≠ 0) : trim (xs ++ [a]) = xs ++ [a] := by simp [trim, h]
theorem trim_pre (xs : List Int) : ∃ ys, xs = trim xs ++ ys := by
  refine ⟨(xs.reverse.takeWhile fun a => a == 0).reverse, ?_⟩
  unfold trim
  rw [← List.reverse_append, List.takeWhile_append_dropWhile, List.reverse_reverse]
theorem trim_len {xs : List Int} : (trim xs).length ≤ xs.length := by
  obtain ⟨ys, h⟩ := trim_pre xs
  have := congrArg List.length h
  rw [List.length_append] at this
  omega
theorem trim_mem {xs : List Int} {x : Int} (h : x ∈ trim xs) : x ∈ xs := by
  obtain ⟨ys, e⟩ := trim_pre xs
  rw [e]
  exact List.mem_append_left _ h
theorem take_snoc {xs : List Int} {n : Nat} {a : Int} (h : xs[n]? = some a) : xs.take (n + 1) = xs.take n ++ [a] := by
  rw [List.take_succ, h]; rfl
/-! ### the small defs -/
def sp_divisor : DSp := pf 2 (fun a : Int × Int => [.int a.1, .int a.2]) (fun _ => True) (fun a => .int (Int.gcd a.1 a.2 : Nat))
theorem b_divisor : BodyOk [] [] 2 ir_divisor sp_divisor := by
  refine body_pf (fun a M _ => .int _) fun ⟨i, j⟩ M _ _ => ?_
  unfold ir_divisor
  try simp only [↓x_var, ↓x_cst, ↓x_glob, ↓x_tup, ↓x_lst, ↓x_bin, ↓x_neg, ↓x_not, ↓x_and, ↓x_or, ↓x_cmp, ↓x_isN, ↓x_ite, ↓x_ix, ↓x_sl, ↓x_call, ↓x_call0, ↓x_blt, ↓x_isi, ↓x_lc, ↓x_nil, ↓x_cons, ↓x_and1, ↓x_and2, ↓x_or1, ↓x_or2, ↓x_ioN, ↓x_ioS, ↓x_seq, ↓x_rng1, ↓x_rng2, ↓x_pop, ↓x_disp, ↓x_rev, revX_tup, x_end, ↓x_snil, ↓x_scons, ↓x_set, ↓x_par, ↓x_par3, ↓x_unp, ↓x_six, ↓x_exp, ↓x_app, ↓x_ret, ↓x_retN, ↓x_pass, ↓x_brk, ↓x_cont, ↓x_never, ↓x_if, ↓x_for, ↓x_while, refX_ref, v_get, v_getO, v_getI, v_lst, v_ift, v_iff, v_ifn, v_ifd, v_ife, v_if0, v_ifb, v_newF, v_newT, v_tup, v_add, v_sub, v_mul, v_fdiv, v_mod, v_pow, v_addT, v_addL, v_mulL, v_lt, v_le, v_gt, v_ge, v_eqI, v_neI, v_eqB, v_neB, v_ixT, v_ixL, v_slT, v_slL, v_slS, v_lenT, v_lenL, v_int, v_abs, v_max2, v_min2, v_gcd, v_tupT, v_tupL, v_lstT, v_lstL, v_tg1, v_tg2, v_tg3, t_bl, t_int, t_non, s_tup, s_lst, s_scr, isNon, CV.d, isTys, isTy, List.getElem?_cons_zero, List.getElem?_cons_succ, List.set_cons_zero, List.set_cons_succ, put_same, put_put, wipeE, tgSlots, pureSC, List.length_map, List.length_cons, List.length_nil, Bool.or_false, Bool.or_true, Bool.not_true, Bool.not_false, p_ix, p_six, p_len, p_tup, Ext_r, reduceCtorEq, decide_true, decide_false, decide_eq_true_eq, or_true, true_or, or_false, false_or, and_self, true_and, and_true, false_and, and_false, Bool.false_eq_true, Bool.true_eq_false, false_implies, true_implies, implies_true, not_true_eq_false, not_false_eq_true, startE, List.map_cons, List.map_nil, Nat.reduceAdd, Nat.reduceSub, Nat.reduceMul, List.replicate_succ, List.replicate_zero, List.cons_append, List.nil_append, decide_eq_false_iff_not, List.getElem?_map, Option.map_some, p_isL, p_appX, Bool.false_bne, Bool.true_bne, beq_self_eq_true]
def isW : D → Bool | .int _ => true | _ => false
def plainD : D → Bool | .ref _ => false | .exn _ _ => false | _ => true
def sp_is_whole : DSp := pf 1 (fun a : D => [a]) (fun a => plainD a = true) (fun a => .bl (isW a))
theorem b_is_whole : BodyOk [] [] 1 ir_is_whole sp_is_whole := by
  refine body_pf (fun a M _ => .bl _) fun d M h _ => ?_
  unfold ir_is_whole
  cases d <;> simp only [plainD, Bool.false_eq_true] at h <;> try simp only [↓x_var, ↓x_cst, ↓x_glob, ↓x_tup, ↓x_lst, ↓x_bin, ↓x_neg, ↓x_not, ↓x_and, ↓x_or, ↓x_cmp, ↓x_isN, ↓x_ite, ↓x_ix, ↓x_sl, ↓x_call, ↓x_call0, ↓x_blt, ↓x_isi, ↓x_lc, ↓x_nil, ↓x_cons, ↓x_and1, ↓x_and2, ↓x_or1, ↓x_or2, ↓x_ioN, ↓x_ioS, ↓x_seq, ↓x_rng1, ↓x_rng2, ↓x_pop, ↓x_disp, ↓x_rev, revX_tup, x_end, ↓x_snil, ↓x_scons, ↓x_set, ↓x_par, ↓x_par3, ↓x_unp, ↓x_six, ↓x_exp, ↓x_app, ↓x_ret, ↓x_retN, ↓x_pass, ↓x_brk, ↓x_cont, ↓x_never, ↓x_if, ↓x_for, ↓x_while, refX_ref, v_get, v_getO, v_getI, v_lst, v_ift, v_iff, v_ifn, v_ifd, v_ife, v_if0, v_ifb, v_newF, v_newT, v_tup, v_add, v_sub, v_mul, v_fdiv, v_mod, v_pow, v_addT, v_addL, v_mulL, v_lt, v_le, v_gt, v_ge, v_eqI, v_neI, v_eqB, v_neB, v_ixT, v_ixL, v_slT, v_slL, v_slS, v_lenT, v_lenL, v_int, v_abs, v_max2, v_min2, v_gcd, v_tupT, v_tupL, v_lstT, v_lstL, v_tg1, v_tg2, v_tg3, t_bl, t_int, t_non, s_tup, s_lst, s_scr, isNon, CV.d, isTys, isTy, List.getElem?_cons_zero, List.getElem?_cons_succ, List.set_cons_zero, List.set_cons_succ, put_same, put_put, wipeE, tgSlots, pureSC, List.length_map, List.length_cons, List.length_nil, Bool.or_false, Bool.or_true, Bool.not_true, Bool.not_false, p_ix, p_six, p_len, p_tup, Ext_r, reduceCtorEq, decide_true, decide_false, decide_eq_true_eq, or_true, true_or, or_false, false_or, and_self, true_and, and_true, false_and, and_false, Bool.false_eq_true, Bool.true_eq_false, false_implies, true_implies, implies_true, not_true_eq_false, not_false_eq_true, startE, List.map_cons, List.map_nil, Nat.reduceAdd, Nat.reduceSub, Nat.reduceMul, List.replicate_succ, List.replicate_zero, List.cons_append, List.nil_append, decide_eq_false_iff_not, List.getElem?_map, Option.map_some, p_isL, p_appX, Bool.false_bne, Bool.true_bne, beq_self_eq_true,  isW]
def lowN (n d : Int) : Int := if d < 0 then -(Int.gcd n d : Int) else (Int.gcd n d : Int)
def lowF (n d : Int) : D := .tup [.int (n.fdiv (lowN n d)), .int (d.fdiv (lowN n d))]
theorem gcd_lt {n d : Int} {k : Nat} (h0 : d ≠ 0) (h : Bit k d) : Bit k (Int.gcd n d : Nat) := show (Int.gcd n d) < 2 ^ k from Nat.lt_of_le_of_lt (Nat.le_of_dvd (by omega) (Nat.gcd_dvd_right ..)) h
theorem gcd_ne {n d : Int} (h0 : d ≠ 0) : (Int.gcd n d : Int) ≠ 0 := by
  have := Nat.gcd_pos_of_pos_right n.natAbs (n := d.natAbs) (by omega)
  have : Int.gcd n d = Nat.gcd n.natAbs d.natAbs := rfl
  omega
def sp_low : DSp := pf 2 (fun a : Int × Int => [.int a.1, .int a.2]) (fun a => a.2 ≠ 0 ∧ Bit 8000 a.2) (fun a => lowF a.1 a.2)
theorem cl_low {M : Mem} {n d : Int} : Cl M (lowF n d) := .tup (.cons (.int _) (.cons (.int _) .nil))
theorem b_ratio : BodyOk [sp_is_whole, sp_divisor] [] 3 ir_ratio sp_low := by
  refine body_pf (fun a M _ => cl_low) fun ⟨n, d⟩ M h _ => ?_
  obtain ⟨h0, hb⟩ := h
  dsimp only at h0 hb
  have g0 := gcd_ne (n := n) h0
  have gb := gcd_lt (n := n) h0 hb
  unfold ir_ratio
  try simp only [↓x_var, ↓x_cst, ↓x_glob, ↓x_tup, ↓x_lst, ↓x_bin, ↓x_neg, ↓x_not, ↓x_and, ↓x_or, ↓x_cmp, ↓x_isN, ↓x_ite, ↓x_ix, ↓x_sl, ↓x_call, ↓x_call0, ↓x_blt, ↓x_isi, ↓x_lc, ↓x_nil, ↓x_cons, ↓x_and1, ↓x_and2, ↓x_or1, ↓x_or2, ↓x_ioN, ↓x_ioS, ↓x_seq, ↓x_rng1, ↓x_rng2, ↓x_pop, ↓x_disp, ↓x_rev, revX_tup, x_end, ↓x_snil, ↓x_scons, ↓x_set, ↓x_par, ↓x_par3, ↓x_unp, ↓x_six, ↓x_exp, ↓x_app, ↓x_ret, ↓x_retN, ↓x_pass, ↓x_brk, ↓x_cont, ↓x_never, ↓x_if, ↓x_for, ↓x_while, refX_ref, v_get, v_getO, v_getI, v_lst, v_ift, v_iff, v_ifn, v_ifd, v_ife, v_if0, v_ifb, v_newF, v_newT, v_tup, v_add, v_sub, v_mul, v_fdiv, v_mod, v_pow, v_addT, v_addL, v_mulL, v_lt, v_le, v_gt, v_ge, v_eqI, v_neI, v_eqB, v_neB, v_ixT, v_ixL, v_slT, v_slL, v_slS, v_lenT, v_lenL, v_int, v_abs, v_max2, v_min2, v_gcd, v_tupT, v_tupL, v_lstT, v_lstL, v_tg1, v_tg2, v_tg3, t_bl, t_int, t_non, s_tup, s_lst, s_scr, isNon, CV.d, isTys, isTy, List.getElem?_cons_zero, List.getElem?_cons_succ, List.set_cons_zero, List.set_cons_succ, put_same, put_put, wipeE, tgSlots, pureSC, List.length_map, List.length_cons, List.length_nil, Bool.or_false, Bool.or_true, Bool.not_true, Bool.not_false, p_ix, p_six, p_len, p_tup, Ext_r, reduceCtorEq, decide_true, decide_false, decide_eq_true_eq, or_true, true_or, or_false, false_or, and_self, true_and, and_true, false_and, and_false, Bool.false_eq_true, Bool.true_eq_false, false_implies, true_implies, implies_true, not_true_eq_false, not_false_eq_true, startE, List.map_cons, List.map_nil, Nat.reduceAdd, Nat.reduceSub, Nat.reduceMul, List.replicate_succ, List.replicate_zero, List.cons_append, List.nil_append, decide_eq_false_iff_not, List.getElem?_map, Option.map_some, p_isL, p_appX, Bool.false_bne, Bool.true_bne, beq_self_eq_true]
  refine call_pf (.int n) rfl rfl ?_
  try simp only [↓x_var, ↓x_cst, ↓x_glob, ↓x_tup, ↓x_lst, ↓x_bin, ↓x_neg, ↓x_not, ↓x_and, ↓x_or, ↓x_cmp, ↓x_isN, ↓x_ite, ↓x_ix, ↓x_sl, ↓x_call, ↓x_call0, ↓x_blt, ↓x_isi, ↓x_lc, ↓x_nil, ↓x_cons, ↓x_and1, ↓x_and2, ↓x_or1, ↓x_or2, ↓x_ioN, ↓x_ioS, ↓x_seq, ↓x_rng1, ↓x_rng2, ↓x_pop, ↓x_disp, ↓x_rev, revX_tup, x_end, ↓x_snil, ↓x_scons, ↓x_set, ↓x_par, ↓x_par3, ↓x_unp, ↓x_six, ↓x_exp, ↓x_app, ↓x_ret, ↓x_retN, ↓x_pass, ↓x_brk, ↓x_cont, ↓x_never, ↓x_if, ↓x_for, ↓x_while, refX_ref, v_get, v_getO, v_getI, v_lst, v_ift, v_iff, v_ifn, v_ifd, v_ife, v_if0, v_ifb, v_newF, v_newT, v_tup, v_add, v_sub, v_mul, v_fdiv, v_mod, v_pow, v_addT, v_addL, v_mulL, v_lt, v_le, v_gt, v_ge, v_eqI, v_neI, v_eqB, v_neB, v_ixT, v_ixL, v_slT, v_slL, v_slS, v_lenT, v_lenL, v_int, v_abs, v_max2, v_min2, v_gcd, v_tupT, v_tupL, v_lstT, v_lstL, v_tg1, v_tg2, v_tg3, t_bl, t_int, t_non, s_tup, s_lst, s_scr, isNon, CV.d, isTys, isTy, List.getElem?_cons_zero, List.getElem?_cons_succ, List.set_cons_zero, List.set_cons_succ, put_same, put_put, wipeE, tgSlots, pureSC, List.length_map, List.length_cons, List.length_nil, Bool.or_false, Bool.or_true, Bool.not_true, Bool.not_false, p_ix, p_six, p_len, p_tup, Ext_r, reduceCtorEq, decide_true, decide_false, decide_eq_true_eq, or_true, true_or, or_false, false_or, and_self, true_and, and_true, false_and, and_false, Bool.false_eq_true, Bool.true_eq_false, false_implies, true_implies, implies_true, not_true_eq_false, not_false_eq_true, startE, List.map_cons, List.map_nil, Nat.reduceAdd, Nat.reduceSub, Nat.reduceMul, List.replicate_succ, List.replicate_zero, List.cons_append, List.nil_append, decide_eq_false_iff_not, List.getElem?_map, Option.map_some, p_isL, p_appX, Bool.false_bne, Bool.true_bne, beq_self_eq_true,  isW]
  refine call_pf (.int d) rfl rfl ?_
  try simp only [↓x_var, ↓x_cst, ↓x_glob, ↓x_tup, ↓x_lst, ↓x_bin, ↓x_neg, ↓x_not, ↓x_and, ↓x_or, ↓x_cmp, ↓x_isN, ↓x_ite, ↓x_ix, ↓x_sl, ↓x_call, ↓x_call0, ↓x_blt, ↓x_isi, ↓x_lc, ↓x_nil, ↓x_cons, ↓x_and1, ↓x_and2, ↓x_or1, ↓x_or2, ↓x_ioN, ↓x_ioS, ↓x_seq, ↓x_rng1, ↓x_rng2, ↓x_pop, ↓x_disp, ↓x_rev, revX_tup, x_end, ↓x_snil, ↓x_scons, ↓x_set, ↓x_par, ↓x_par3, ↓x_unp, ↓x_six, ↓x_exp, ↓x_app, ↓x_ret, ↓x_retN, ↓x_pass, ↓x_brk, ↓x_cont, ↓x_never, ↓x_if, ↓x_for, ↓x_while, refX_ref, v_get, v_getO, v_getI, v_lst, v_ift, v_iff, v_ifn, v_ifd, v_ife, v_if0, v_ifb, v_newF, v_newT, v_tup, v_add, v_sub, v_mul, v_fdiv, v_mod, v_pow, v_addT, v_addL, v_mulL, v_lt, v_le, v_gt, v_ge, v_eqI, v_neI, v_eqB, v_neB, v_ixT, v_ixL, v_slT, v_slL, v_slS, v_lenT, v_lenL, v_int, v_abs, v_max2, v_min2, v_gcd, v_tupT, v_tupL, v_lstT, v_lstL, v_tg1, v_tg2, v_tg3, t_bl, t_int, t_non, s_tup, s_lst, s_scr, isNon, CV.d, isTys, isTy, List.getElem?_cons_zero, List.getElem?_cons_succ, List.set_cons_zero, List.set_cons_succ, put_same, put_put, wipeE, tgSlots, pureSC, List.length_map, List.length_cons, List.length_nil, Bool.or_false, Bool.or_true, Bool.not_true, Bool.not_false, p_ix, p_six, p_len, p_tup, Ext_r, reduceCtorEq, decide_true, decide_false, decide_eq_true_eq, or_true, true_or, or_false, false_or, and_self, true_and, and_true, false_and, and_false, Bool.false_eq_true, Bool.true_eq_false, false_implies, true_implies, implies_true, not_true_eq_false, not_false_eq_true, startE, List.map_cons, List.map_nil, Nat.reduceAdd, Nat.reduceSub, Nat.reduceMul, List.replicate_succ, List.replicate_zero, List.cons_append, List.nil_append, decide_eq_false_iff_not, List.getElem?_map, Option.map_some, p_isL, p_appX, Bool.false_bne, Bool.true_bne, beq_self_eq_true,  isW]
  refine ⟨fun h => (h0 h).elim, fun _ => ?_⟩
  refine call_pf (n, d) rfl trivial ?_
  try simp only [↓x_var, ↓x_cst, ↓x_glob, ↓x_tup, ↓x_lst, ↓x_bin, ↓x_neg, ↓x_not, ↓x_and, ↓x_or, ↓x_cmp, ↓x_isN, ↓x_ite, ↓x_ix, ↓x_sl, ↓x_call, ↓x_call0, ↓x_blt, ↓x_isi, ↓x_lc, ↓x_nil, ↓x_cons, ↓x_and1, ↓x_and2, ↓x_or1, ↓x_or2, ↓x_ioN, ↓x_ioS, ↓x_seq, ↓x_rng1, ↓x_rng2, ↓x_pop, ↓x_disp, ↓x_rev, revX_tup, x_end, ↓x_snil, ↓x_scons, ↓x_set, ↓x_par, ↓x_par3, ↓x_unp, ↓x_six, ↓x_exp, ↓x_app, ↓x_ret, ↓x_retN, ↓x_pass, ↓x_brk, ↓x_cont, ↓x_never, ↓x_if, ↓x_for, ↓x_while, refX_ref, v_get, v_getO, v_getI, v_lst, v_ift, v_iff, v_ifn, v_ifd, v_ife, v_if0, v_ifb, v_newF, v_newT, v_tup, v_add, v_sub, v_mul, v_fdiv, v_mod, v_pow, v_addT, v_addL, v_mulL, v_lt, v_le, v_gt, v_ge, v_eqI, v_neI, v_eqB, v_neB, v_ixT, v_ixL, v_slT, v_slL, v_slS, v_lenT, v_lenL, v_int, v_abs, v_max2, v_min2, v_gcd, v_tupT, v_tupL, v_lstT, v_lstL, v_tg1, v_tg2, v_tg3, t_bl, t_int, t_non, s_tup, s_lst, s_scr, isNon, CV.d, isTys, isTy, List.getElem?_cons_zero, List.getElem?_cons_succ, List.set_cons_zero, List.set_cons_succ, put_same, put_put, wipeE, tgSlots, pureSC, List.length_map, List.length_cons, List.length_nil, Bool.or_false, Bool.or_true, Bool.not_true, Bool.not_false, p_ix, p_six, p_len, p_tup, Ext_r, reduceCtorEq, decide_true, decide_false, decide_eq_true_eq, or_true, true_or, or_false, false_or, and_self, true_and, and_true, false_and, and_false, Bool.false_eq_true, Bool.true_eq_false, false_implies, true_implies, implies_true, not_true_eq_false, not_false_eq_true, startE, List.map_cons, List.map_nil, Nat.reduceAdd, Nat.reduceSub, Nat.reduceMul, List.replicate_succ, List.replicate_zero, List.cons_append, List.nil_append, decide_eq_false_iff_not, List.getElem?_map, Option.map_some, p_isL, p_appX, Bool.false_bne, Bool.true_bne, beq_self_eq_true]
  refine ⟨fun h => ?_, fun h => ?_⟩
  · refine ⟨divOk_of (a := 8000) (by omega) gb.neg, divOk_of (a := 8000) (by omega) gb.neg, by decide, ?_⟩
    unfold lowF lowN; rw [if_pos h]
  · refine ⟨divOk_of (a := 8000) g0 gb, divOk_of (a := 8000) g0 gb, by decide, ?_⟩
    unfold lowF lowN; rw [if_neg h]
theorem b__law_low : BodyOk [sp_divisor] [] 3 ir__law_low sp_low := by
  refine body_pf (fun a M _ => cl_low) fun ⟨n, d⟩ M h _ => ?_
  obtain ⟨h0, hb⟩ := h
  dsimp only at h0 hb
  have g0 := gcd_ne (n := n) h0
  have gb := gcd_lt (n := n) h0 hb
  unfold ir__law_low
  try simp only [↓x_var, ↓x_cst, ↓x_glob, ↓x_tup, ↓x_lst, ↓x_bin, ↓x_neg, ↓x_not, ↓x_and, ↓x_or, ↓x_cmp, ↓x_isN, ↓x_ite, ↓x_ix, ↓x_sl, ↓x_call, ↓x_call0, ↓x_blt, ↓x_isi, ↓x_lc, ↓x_nil, ↓x_cons, ↓x_and1, ↓x_and2, ↓x_or1, ↓x_or2, ↓x_ioN, ↓x_ioS, ↓x_seq, ↓x_rng1, ↓x_rng2, ↓x_pop, ↓x_disp, ↓x_rev, revX_tup, x_end, ↓x_snil, ↓x_scons, ↓x_set, ↓x_par, ↓x_par3, ↓x_unp, ↓x_six, ↓x_exp, ↓x_app, ↓x_ret, ↓x_retN, ↓x_pass, ↓x_brk, ↓x_cont, ↓x_never, ↓x_if, ↓x_for, ↓x_while, refX_ref, v_get, v_getO, v_getI, v_lst, v_ift, v_iff, v_ifn, v_ifd, v_ife, v_if0, v_ifb, v_newF, v_newT, v_tup, v_add, v_sub, v_mul, v_fdiv, v_mod, v_pow, v_addT, v_addL, v_mulL, v_lt, v_le, v_gt, v_ge, v_eqI, v_neI, v_eqB, v_neB, v_ixT, v_ixL, v_slT, v_slL, v_slS, v_lenT, v_lenL, v_int, v_abs, v_max2, v_min2, v_gcd, v_tupT, v_tupL, v_lstT, v_lstL, v_tg1, v_tg2, v_tg3, t_bl, t_int, t_non, s_tup, s_lst, s_scr, isNon, CV.d, isTys, isTy, List.getElem?_cons_zero, List.getElem?_cons_succ, List.set_cons_zero, List.set_cons_succ, put_same, put_put, wipeE, tgSlots, pureSC, List.length_map, List.length_cons, List.length_nil, Bool.or_false, Bool.or_true, Bool.not_true, Bool.not_false, p_ix, p_six, p_len, p_tup, Ext_r, reduceCtorEq, decide_true, decide_false, decide_eq_true_eq, or_true, true_or, or_false, false_or, and_self, true_and, and_true, false_and, and_false, Bool.false_eq_true, Bool.true_eq_false, false_implies, true_implies, implies_true, not_true_eq_false, not_false_eq_true, startE, List.map_cons, List.map_nil, Nat.reduceAdd, Nat.reduceSub, Nat.reduceMul, List.replicate_succ, List.replicate_zero, List.cons_append, List.nil_append, decide_eq_false_iff_not, List.getElem?_map, Option.map_some, p_isL, p_appX, Bool.false_bne, Bool.true_bne, beq_self_eq_true]
  refine ⟨fun h => ?_, fun h => ?_⟩
  · refine call_pf (n, d) rfl trivial ?_
    try simp only [↓x_var, ↓x_cst, ↓x_glob, ↓x_tup, ↓x_lst, ↓x_bin, ↓x_neg, ↓x_not, ↓x_and, ↓x_or, ↓x_cmp, ↓x_isN, ↓x_ite, ↓x_ix, ↓x_sl, ↓x_call, ↓x_call0, ↓x_blt, ↓x_isi, ↓x_lc, ↓x_nil, ↓x_cons, ↓x_and1, ↓x_and2, ↓x_or1, ↓x_or2, ↓x_ioN, ↓x_ioS, ↓x_seq, ↓x_rng1, ↓x_rng2, ↓x_pop, ↓x_disp, ↓x_rev, revX_tup, x_end, ↓x_snil, ↓x_scons, ↓x_set, ↓x_par, ↓x_par3, ↓x_unp, ↓x_six, ↓x_exp, ↓x_app, ↓x_ret, ↓x_retN, ↓x_pass, ↓x_brk, ↓x_cont, ↓x_never, ↓x_if, ↓x_for, ↓x_while, refX_ref, v_get, v_getO, v_getI, v_lst, v_ift, v_iff, v_ifn, v_ifd, v_ife, v_if0, v_ifb, v_newF, v_newT, v_tup, v_add, v_sub, v_mul, v_fdiv, v_mod, v_pow, v_addT, v_addL, v_mulL, v_lt, v_le, v_gt, v_ge, v_eqI, v_neI, v_eqB, v_neB, v_ixT, v_ixL, v_slT, v_slL, v_slS, v_lenT, v_lenL, v_int, v_abs, v_max2, v_min2, v_gcd, v_tupT, v_tupL, v_lstT, v_lstL, v_tg1, v_tg2, v_tg3, t_bl, t_int, t_non, s_tup, s_lst, s_scr, isNon, CV.d, isTys, isTy, List.getElem?_cons_zero, List.getElem?_cons_succ, List.set_cons_zero, List.set_cons_succ, put_same, put_put, wipeE, tgSlots, pureSC, List.length_map, List.length_cons, List.length_nil, Bool.or_false, Bool.or_true, Bool.not_true, Bool.not_false, p_ix, p_six, p_len, p_tup, Ext_r, reduceCtorEq, decide_true, decide_false, decide_eq_true_eq, or_true, true_or, or_false, false_or, and_self, true_and, and_true, false_and, and_false, Bool.false_eq_true, Bool.true_eq_false, false_implies, true_implies, implies_true, not_true_eq_false, not_false_eq_true, startE, List.map_cons, List.map_nil, Nat.reduceAdd, Nat.reduceSub, Nat.reduceMul, List.replicate_succ, List.replicate_zero, List.cons_append, List.nil_append, decide_eq_false_iff_not, List.getElem?_map, Option.map_some, p_isL, p_appX, Bool.false_bne, Bool.true_bne, beq_self_eq_true]
    refine ⟨divOk_of (a := 8000) g0 gb, divOk_of (a := 8000) g0 gb, by decide, ?_⟩
    unfold lowF lowN; rw [if_neg (by omega)]
  · refine call_pf (n, d) rfl trivial ?_
    try simp only [↓x_var, ↓x_cst, ↓x_glob, ↓x_tup, ↓x_lst, ↓x_bin, ↓x_neg, ↓x_not, ↓x_and, ↓x_or, ↓x_cmp, ↓x_isN, ↓x_ite, ↓x_ix, ↓x_sl, ↓x_call, ↓x_call0, ↓x_blt, ↓x_isi, ↓x_lc, ↓x_nil, ↓x_cons, ↓x_and1, ↓x_and2, ↓x_or1, ↓x_or2, ↓x_ioN, ↓x_ioS, ↓x_seq, ↓x_rng1, ↓x_rng2, ↓x_pop, ↓x_disp, ↓x_rev, revX_tup, x_end, ↓x_snil, ↓x_scons, ↓x_set, ↓x_par, ↓x_par3, ↓x_unp, ↓x_six, ↓x_exp, ↓x_app, ↓x_ret, ↓x_retN, ↓x_pass, ↓x_brk, ↓x_cont, ↓x_never, ↓x_if, ↓x_for, ↓x_while, refX_ref, v_get, v_getO, v_getI, v_lst, v_ift, v_iff, v_ifn, v_ifd, v_ife, v_if0, v_ifb, v_newF, v_newT, v_tup, v_add, v_sub, v_mul, v_fdiv, v_mod, v_pow, v_addT, v_addL, v_mulL, v_lt, v_le, v_gt, v_ge, v_eqI, v_neI, v_eqB, v_neB, v_ixT, v_ixL, v_slT, v_slL, v_slS, v_lenT, v_lenL, v_int, v_abs, v_max2, v_min2, v_gcd, v_tupT, v_tupL, v_lstT, v_lstL, v_tg1, v_tg2, v_tg3, t_bl, t_int, t_non, s_tup, s_lst, s_scr, isNon, CV.d, isTys, isTy, List.getElem?_cons_zero, List.getElem?_cons_succ, List.set_cons_zero, List.set_cons_succ, put_same, put_put, wipeE, tgSlots, pureSC, List.length_map, List.length_cons, List.length_nil, Bool.or_false, Bool.or_true, Bool.not_true, Bool.not_false, p_ix, p_six, p_len, p_tup, Ext_r, reduceCtorEq, decide_true, decide_false, decide_eq_true_eq, or_true, true_or, or_false, false_or, and_self, true_and, and_true, false_and, and_false, Bool.false_eq_true, Bool.true_eq_false, false_implies, true_implies, implies_true, not_true_eq_false, not_false_eq_true, startE, List.map_cons, List.map_nil, Nat.reduceAdd, Nat.reduceSub, Nat.reduceMul, List.replicate_succ, List.replicate_zero, List.cons_append, List.nil_append, decide_eq_false_iff_not, List.getElem?_map, Option.map_some, p_isL, p_appX, Bool.false_bne, Bool.true_bne, beq_self_eq_true]
    refine ⟨divOk_of (a := 8000) (by omega) gb.neg, divOk_of (a := 8000) (by omega) gb.neg, by decide, ?_⟩
    unfold lowF lowN; rw [if_pos (by omega)]
theorem b__law_gcd : BodyOk [] [] 2 ir__law_gcd sp_divisor := by
  refine body_pf (fun a M _ => .int _) fun ⟨n, d⟩ M _ _ => ?_
  unfold ir__law_gcd
  try simp only [↓x_var, ↓x_cst, ↓x_glob, ↓x_tup, ↓x_lst, ↓x_bin, ↓x_neg, ↓x_not, ↓x_and, ↓x_or, ↓x_cmp, ↓x_isN, ↓x_ite, ↓x_ix, ↓x_sl, ↓x_call, ↓x_call0, ↓x_blt, ↓x_isi, ↓x_lc, ↓x_nil, ↓x_cons, ↓x_and1, ↓x_and2, ↓x_or1, ↓x_or2, ↓x_ioN, ↓x_ioS, ↓x_seq, ↓x_rng1, ↓x_rng2, ↓x_pop, ↓x_disp, ↓x_rev, revX_tup, x_end, ↓x_snil, ↓x_scons, ↓x_set, ↓x_par, ↓x_par3, ↓x_unp, ↓x_six, ↓x_exp, ↓x_app, ↓x_ret, ↓x_retN, ↓x_pass, ↓x_brk, ↓x_cont, ↓x_never, ↓x_if, ↓x_for, ↓x_while, refX_ref, v_get, v_getO, v_getI, v_lst, v_ift, v_iff, v_ifn, v_ifd, v_ife, v_if0, v_ifb, v_newF, v_newT, v_tup, v_add, v_sub, v_mul, v_fdiv, v_mod, v_pow, v_addT, v_addL, v_mulL, v_lt, v_le, v_gt, v_ge, v_eqI, v_neI, v_eqB, v_neB, v_ixT, v_ixL, v_slT, v_slL, v_slS, v_lenT, v_lenL, v_int, v_abs, v_max2, v_min2, v_gcd, v_tupT, v_tupL, v_lstT, v_lstL, v_tg1, v_tg2, v_tg3, t_bl, t_int, t_non, s_tup, s_lst, s_scr, isNon, CV.d, isTys, isTy, List.getElem?_cons_zero, List.getElem?_cons_succ, List.set_cons_zero, List.set_cons_succ, put_same, put_put, wipeE, tgSlots, pureSC, List.length_map, List.length_cons, List.length_nil, Bool.or_false, Bool.or_true, Bool.not_true, Bool.not_false, p_ix, p_six, p_len, p_tup, Ext_r, reduceCtorEq, decide_true, decide_false, decide_eq_true_eq, or_true, true_or, or_false, false_or, and_self, true_and, and_true, false_and, and_false, Bool.false_eq_true, Bool.true_eq_false, false_implies, true_implies, implies_true, not_true_eq_false, not_false_eq_true, startE, List.map_cons, List.map_nil, Nat.reduceAdd, Nat.reduceSub, Nat.reduceMul, List.replicate_succ, List.replicate_zero, List.cons_append, List.nil_append, decide_eq_false_iff_not, List.getElem?_map, Option.map_some, p_isL, p_appX, Bool.false_bne, Bool.true_bne, beq_self_eq_true]
  refine while_ind (fun m ρ M' => ∃ a : Nat, ρ = [some (.int a), some (.int m)] ∧ M' = M ∧ Nat.gcd a m = Int.gcd n d) d.natAbs ⟨_, rfl, rfl, rfl⟩ ?_
  rintro m ρ M' ⟨a, rfl, rfl, hg⟩
  try simp only [↓x_var, ↓x_cst, ↓x_glob, ↓x_tup, ↓x_lst, ↓x_bin, ↓x_neg, ↓x_not, ↓x_and, ↓x_or, ↓x_cmp, ↓x_isN, ↓x_ite, ↓x_ix, ↓x_sl, ↓x_call, ↓x_call0, ↓x_blt, ↓x_isi, ↓x_lc, ↓x_nil, ↓x_cons, ↓x_and1, ↓x_and2, ↓x_or1, ↓x_or2, ↓x_ioN, ↓x_ioS, ↓x_seq, ↓x_rng1, ↓x_rng2, ↓x_pop, ↓x_disp, ↓x_rev, revX_tup, x_end, ↓x_snil, ↓x_scons, ↓x_set, ↓x_par, ↓x_par3, ↓x_unp, ↓x_six, ↓x_exp, ↓x_app, ↓x_ret, ↓x_retN, ↓x_pass, ↓x_brk, ↓x_cont, ↓x_never, ↓x_if, ↓x_for, ↓x_while, refX_ref, v_get, v_getO, v_getI, v_lst, v_ift, v_iff, v_ifn, v_ifd, v_ife, v_if0, v_ifb, v_newF, v_newT, v_tup, v_add, v_sub, v_mul, v_fdiv, v_mod, v_pow, v_addT, v_addL, v_mulL, v_lt, v_le, v_gt, v_ge, v_eqI, v_neI, v_eqB, v_neB, v_ixT, v_ixL, v_slT, v_slL, v_slS, v_lenT, v_lenL, v_int, v_abs, v_max2, v_min2, v_gcd, v_tupT, v_tupL, v_lstT, v_lstL, v_tg1, v_tg2, v_tg3, t_bl, t_int, t_non, s_tup, s_lst, s_scr, isNon, CV.d, isTys, isTy, List.getElem?_cons_zero, List.getElem?_cons_succ, List.set_cons_zero, List.set_cons_succ, put_same, put_put, wipeE, tgSlots, pureSC, List.length_map, List.length_cons, List.length_nil, Bool.or_false, Bool.or_true, Bool.not_true, Bool.not_false, p_ix, p_six, p_len, p_tup, Ext_r, reduceCtorEq, decide_true, decide_false, decide_eq_true_eq, or_true, true_or, or_false, false_or, and_self, true_and, and_true, false_and, and_false, Bool.false_eq_true, Bool.true_eq_false, false_implies, true_implies, implies_true, not_true_eq_false, not_false_eq_true, startE, List.map_cons, List.map_nil, Nat.reduceAdd, Nat.reduceSub, Nat.reduceMul, List.replicate_succ, List.replicate_zero, List.cons_append, List.nil_append, decide_eq_false_iff_not, List.getElem?_map, Option.map_some, p_isL, p_appX, Bool.false_bne, Bool.true_bne, beq_self_eq_true]
  refine ⟨fun h => ⟨by omega, a % m, Nat.mod_lt _ (by omega), m, ?_, ?_⟩, fun h => ?_⟩
  · rw [Int.fmod_eq_emod_of_nonneg _ (by omega)]; rfl
  · rw [← hg, Nat.gcd_comm a m, Nat.gcd_rec m a, Nat.gcd_comm]
  · have : m = 0 := by omega
    subst this
    rw [← hg, Nat.gcd_zero_right]
/-! ### trimmed -/
def sp_trim : DSp where
  ar := 1
  wp := fun ds M Q _ => ∃ d xs, ds = [d] ∧ rs M d = li xs ∧ xs.length < 100000 ∧ Q (tp (trim xs)) M
  mono := fun hQ _ ⟨d, xs, h1, h2, h3, h4⟩ => ⟨d, xs, h1, h2, h3, hQ _ _ h4⟩
  len := fun ⟨d, xs, h1, _⟩ => by rw [h1]; rfl
theorem b_trimmed : BodyOk [] [] 2 ir_trimmed sp_trim := by
  rintro ds M Q E c cs ⟨d, xs, rfl, hd, hl, q⟩
  refine sSs_mono (C := pureSC M (tp (trim xs))) (E := noE) _ ⟨fun ρ M' z => ?_, fun d M' z => ?_, fun _ _ z => z.elim, fun _ _ z => z.elim⟩ (fun _ _ z => z.elim) ?_
  · cases z.1
  · obtain ⟨rfl, x⟩ := z
    exact Drop.ext c cl_tp x q
  have e1 := fun own Q => rd_len (own := own) (Q := Q) hd
  have e2 := fun i Q => rd_ix (i := i) (Q := Q) hd
  have e3 := fun own lo hi Q => rd_sl (own := own) (lo := lo) (hi := hi) (Q := Q) hd
  unfold ir_trimmed
  try simp only [↓x_var, ↓x_cst, ↓x_glob, ↓x_tup, ↓x_lst, ↓x_bin, ↓x_neg, ↓x_not, ↓x_and, ↓x_or, ↓x_cmp, ↓x_isN, ↓x_ite, ↓x_ix, ↓x_sl, ↓x_call, ↓x_call0, ↓x_blt, ↓x_isi, ↓x_lc, ↓x_nil, ↓x_cons, ↓x_and1, ↓x_and2, ↓x_or1, ↓x_or2, ↓x_ioN, ↓x_ioS, ↓x_seq, ↓x_rng1, ↓x_rng2, ↓x_pop, ↓x_disp, ↓x_rev, revX_tup, x_end, ↓x_snil, ↓x_scons, ↓x_set, ↓x_par, ↓x_par3, ↓x_unp, ↓x_six, ↓x_exp, ↓x_app, ↓x_ret, ↓x_retN, ↓x_pass, ↓x_brk, ↓x_cont, ↓x_never, ↓x_if, ↓x_for, ↓x_while, refX_ref, v_get, v_getO, v_getI, v_lst, v_ift, v_iff, v_ifn, v_ifd, v_ife, v_if0, v_ifb, v_newF, v_newT, v_tup, v_add, v_sub, v_mul, v_fdiv, v_mod, v_pow, v_addT, v_addL, v_mulL, v_lt, v_le, v_gt, v_ge, v_eqI, v_neI, v_eqB, v_neB, v_ixT, v_ixL, v_slT, v_slL, v_slS, v_lenT, v_lenL, v_int, v_abs, v_max2, v_min2, v_gcd, v_tupT, v_tupL, v_lstT, v_lstL, v_tg1, v_tg2, v_tg3, t_bl, t_int, t_non, s_tup, s_lst, s_scr, isNon, CV.d, isTys, isTy, List.getElem?_cons_zero, List.getElem?_cons_succ, List.set_cons_zero, List.set_cons_succ, put_same, put_put, wipeE, tgSlots, pureSC, List.length_map, List.length_cons, List.length_nil, Bool.or_false, Bool.or_true, Bool.not_true, Bool.not_false, p_ix, p_six, p_len, p_tup, Ext_r, reduceCtorEq, decide_true, decide_false, decide_eq_true_eq, or_true, true_or, or_false, false_or, and_self, true_and, and_true, false_and, and_false, Bool.false_eq_true, Bool.true_eq_false, false_implies, true_implies, implies_true, not_true_eq_false, not_false_eq_true, startE, List.map_cons, List.map_nil, Nat.reduceAdd, Nat.reduceSub, Nat.reduceMul, List.replicate_succ, List.replicate_zero, List.cons_append, List.nil_append, decide_eq_false_iff_not, List.getElem?_map, Option.map_some, p_isL, p_appX, Bool.false_bne, Bool.true_bne, beq_self_eq_true,  e1]
  refine while_ind (fun m ρ M' => M' = M ∧ m ≤ xs.length ∧ ρ = [some d, some (.int m)] ∧ trim (xs.take m) = trim xs) xs.length ⟨rfl, Nat.le_refl _, rfl, by rw [List.take_length]⟩ ?_
  rintro m ρ M' ⟨rfl, hm, rfl, ht⟩
  try simp only [↓x_var, ↓x_cst, ↓x_glob, ↓x_tup, ↓x_lst, ↓x_bin, ↓x_neg, ↓x_not, ↓x_and, ↓x_or, ↓x_cmp, ↓x_isN, ↓x_ite, ↓x_ix, ↓x_sl, ↓x_call, ↓x_call0, ↓x_blt, ↓x_isi, ↓x_lc, ↓x_nil, ↓x_cons, ↓x_and1, ↓x_and2, ↓x_or1, ↓x_or2, ↓x_ioN, ↓x_ioS, ↓x_seq, ↓x_rng1, ↓x_rng2, ↓x_pop, ↓x_disp, ↓x_rev, revX_tup, x_end, ↓x_snil, ↓x_scons, ↓x_set, ↓x_par, ↓x_par3, ↓x_unp, ↓x_six, ↓x_exp, ↓x_app, ↓x_ret, ↓x_retN, ↓x_pass, ↓x_brk, ↓x_cont, ↓x_never, ↓x_if, ↓x_for, ↓x_while, refX_ref, v_get, v_getO, v_getI, v_lst, v_ift, v_iff, v_ifn, v_ifd, v_ife, v_if0, v_ifb, v_newF, v_newT, v_tup, v_add, v_sub, v_mul, v_fdiv, v_mod, v_pow, v_addT, v_addL, v_mulL, v_lt, v_le, v_gt, v_ge, v_eqI, v_neI, v_eqB, v_neB, v_ixT, v_ixL, v_slT, v_slL, v_slS, v_lenT, v_lenL, v_int, v_abs, v_max2, v_min2, v_gcd, v_tupT, v_tupL, v_lstT, v_lstL, v_tg1, v_tg2, v_tg3, t_bl, t_int, t_non, s_tup, s_lst, s_scr, isNon, CV.d, isTys, isTy, List.getElem?_cons_zero, List.getElem?_cons_succ, List.set_cons_zero, List.set_cons_succ, put_same, put_put, wipeE, tgSlots, pureSC, List.length_map, List.length_cons, List.length_nil, Bool.or_false, Bool.or_true, Bool.not_true, Bool.not_false, p_ix, p_six, p_len, p_tup, Ext_r, reduceCtorEq, decide_true, decide_false, decide_eq_true_eq, or_true, true_or, or_false, false_or, and_self, true_and, and_true, false_and, and_false, Bool.false_eq_true, Bool.true_eq_false, false_implies, true_implies, implies_true, not_true_eq_false, not_false_eq_true, startE, List.map_cons, List.map_nil, Nat.reduceAdd, Nat.reduceSub, Nat.reduceMul, List.replicate_succ, List.replicate_zero, List.cons_append, List.nil_append, decide_eq_false_iff_not, List.getElem?_map, Option.map_some, p_isL, p_appX, Bool.false_bne, Bool.true_bne, beq_self_eq_true,  e2, e3]
  refine ⟨fun h => ?_, fun h => ?_⟩
  · obtain ⟨m, rfl⟩ : ∃ k, m = k + 1 := ⟨m - 1, by omega⟩
    have e4 : ((m + 1 : Nat) : Int) - 1 = (m : Nat) := by omega
    have ex : xs[m]? = some (xs[m]'(by omega)) := List.getElem?_eq_getElem (by omega)
    rw [e4, atI_nat, List.getElem?_map, ex]
    try simp only [↓x_var, ↓x_cst, ↓x_glob, ↓x_tup, ↓x_lst, ↓x_bin, ↓x_neg, ↓x_not, ↓x_and, ↓x_or, ↓x_cmp, ↓x_isN, ↓x_ite, ↓x_ix, ↓x_sl, ↓x_call, ↓x_call0, ↓x_blt, ↓x_isi, ↓x_lc, ↓x_nil, ↓x_cons, ↓x_and1, ↓x_and2, ↓x_or1, ↓x_or2, ↓x_ioN, ↓x_ioS, ↓x_seq, ↓x_rng1, ↓x_rng2, ↓x_pop, ↓x_disp, ↓x_rev, revX_tup, x_end, ↓x_snil, ↓x_scons, ↓x_set, ↓x_par, ↓x_par3, ↓x_unp, ↓x_six, ↓x_exp, ↓x_app, ↓x_ret, ↓x_retN, ↓x_pass, ↓x_brk, ↓x_cont, ↓x_never, ↓x_if, ↓x_for, ↓x_while, refX_ref, v_get, v_getO, v_getI, v_lst, v_ift, v_iff, v_ifn, v_ifd, v_ife, v_if0, v_ifb, v_newF, v_newT, v_tup, v_add, v_sub, v_mul, v_fdiv, v_mod, v_pow, v_addT, v_addL, v_mulL, v_lt, v_le, v_gt, v_ge, v_eqI, v_neI, v_eqB, v_neB, v_ixT, v_ixL, v_slT, v_slL, v_slS, v_lenT, v_lenL, v_int, v_abs, v_max2, v_min2, v_gcd, v_tupT, v_tupL, v_lstT, v_lstL, v_tg1, v_tg2, v_tg3, t_bl, t_int, t_non, s_tup, s_lst, s_scr, isNon, CV.d, isTys, isTy, List.getElem?_cons_zero, List.getElem?_cons_succ, List.set_cons_zero, List.set_cons_succ, put_same, put_put, wipeE, tgSlots, pureSC, List.length_map, List.length_cons, List.length_nil, Bool.or_false, Bool.or_true, Bool.not_true, Bool.not_false, p_ix, p_six, p_len, p_tup, Ext_r, reduceCtorEq, decide_true, decide_false, decide_eq_true_eq, or_true, true_or, or_false, false_or, and_self, true_and, and_true, false_and, and_false, Bool.false_eq_true, Bool.true_eq_false, false_implies, true_implies, implies_true, not_true_eq_false, not_false_eq_true, startE, List.map_cons, List.map_nil, Nat.reduceAdd, Nat.reduceSub, Nat.reduceMul, List.replicate_succ, List.replicate_zero, List.cons_append, List.nil_append, decide_eq_false_iff_not, List.getElem?_map, Option.map_some, p_isL, p_appX, Bool.false_bne, Bool.true_bne, beq_self_eq_true]
    have tk := take_snoc ex
    refine ⟨fun h0 => ⟨m, by omega, by omega, rfl, ?_⟩, fun h0 => ?_⟩
    · rw [← ht, tk, h0, trim_zero]
    · try simp only [↓x_var, ↓x_cst, ↓x_glob, ↓x_tup, ↓x_lst, ↓x_bin, ↓x_neg, ↓x_not, ↓x_and, ↓x_or, ↓x_cmp, ↓x_isN, ↓x_ite, ↓x_ix, ↓x_sl, ↓x_call, ↓x_call0, ↓x_blt, ↓x_isi, ↓x_lc, ↓x_nil, ↓x_cons, ↓x_and1, ↓x_and2, ↓x_or1, ↓x_or2, ↓x_ioN, ↓x_ioS, ↓x_seq, ↓x_rng1, ↓x_rng2, ↓x_pop, ↓x_disp, ↓x_rev, revX_tup, x_end, ↓x_snil, ↓x_scons, ↓x_set, ↓x_par, ↓x_par3, ↓x_unp, ↓x_six, ↓x_exp, ↓x_app, ↓x_ret, ↓x_retN, ↓x_pass, ↓x_brk, ↓x_cont, ↓x_never, ↓x_if, ↓x_for, ↓x_while, refX_ref, v_get, v_getO, v_getI, v_lst, v_ift, v_iff, v_ifn, v_ifd, v_ife, v_if0, v_ifb, v_newF, v_newT, v_tup, v_add, v_sub, v_mul, v_fdiv, v_mod, v_pow, v_addT, v_addL, v_mulL, v_lt, v_le, v_gt, v_ge, v_eqI, v_neI, v_eqB, v_neB, v_ixT, v_ixL, v_slT, v_slL, v_slS, v_lenT, v_lenL, v_int, v_abs, v_max2, v_min2, v_gcd, v_tupT, v_tupL, v_lstT, v_lstL, v_tg1, v_tg2, v_tg3, t_bl, t_int, t_non, s_tup, s_lst, s_scr, isNon, CV.d, isTys, isTy, List.getElem?_cons_zero, List.getElem?_cons_succ, List.set_cons_zero, List.set_cons_succ, put_same, put_put, wipeE, tgSlots, pureSC, List.length_map, List.length_cons, List.length_nil, Bool.or_false, Bool.or_true, Bool.not_true, Bool.not_false, p_ix, p_six, p_len, p_tup, Ext_r, reduceCtorEq, decide_true, decide_false, decide_eq_true_eq, or_true, true_or, or_false, false_or, and_self, true_and, and_true, false_and, and_false, Bool.false_eq_true, Bool.true_eq_false, false_implies, true_implies, implies_true, not_true_eq_false, not_false_eq_true, startE, List.map_cons, List.map_nil, Nat.reduceAdd, Nat.reduceSub, Nat.reduceMul, List.replicate_succ, List.replicate_zero, List.cons_append, List.nil_append, decide_eq_false_iff_not, List.getElem?_map, Option.map_some, p_isL, p_appX, Bool.false_bne, Bool.true_bne, beq_self_eq_true,  e3, cut_take (Int.natCast_nonneg (m + 1))]
      rw [← ht, tk, trim_last h0, ← tk, Int.toNat_natCast]
      simp only [tp, List.map_take]
  · have : m = 0 := by omega
    subst this
    refine ⟨fun z => absurd z (by omega), fun _ => ?_⟩
    try simp only [↓x_var, ↓x_cst, ↓x_glob, ↓x_tup, ↓x_lst, ↓x_bin, ↓x_neg, ↓x_not, ↓x_and, ↓x_or, ↓x_cmp, ↓x_isN, ↓x_ite, ↓x_ix, ↓x_sl, ↓x_call, ↓x_call0, ↓x_blt, ↓x_isi, ↓x_lc, ↓x_nil, ↓x_cons, ↓x_and1, ↓x_and2, ↓x_or1, ↓x_or2, ↓x_ioN, ↓x_ioS, ↓x_seq, ↓x_rng1, ↓x_rng2, ↓x_pop, ↓x_disp, ↓x_rev, revX_tup, x_end, ↓x_snil, ↓x_scons, ↓x_set, ↓x_par, ↓x_par3, ↓x_unp, ↓x_six, ↓x_exp, ↓x_app, ↓x_ret, ↓x_retN, ↓x_pass, ↓x_brk, ↓x_cont, ↓x_never, ↓x_if, ↓x_for, ↓x_while, refX_ref, v_get, v_getO, v_getI, v_lst, v_ift, v_iff, v_ifn, v_ifd, v_ife, v_if0, v_ifb, v_newF, v_newT, v_tup, v_add, v_sub, v_mul, v_fdiv, v_mod, v_pow, v_addT, v_addL, v_mulL, v_lt, v_le, v_gt, v_ge, v_eqI, v_neI, v_eqB, v_neB, v_ixT, v_ixL, v_slT, v_slL, v_slS, v_lenT, v_lenL, v_int, v_abs, v_max2, v_min2, v_gcd, v_tupT, v_tupL, v_lstT, v_lstL, v_tg1, v_tg2, v_tg3, t_bl, t_int, t_non, s_tup, s_lst, s_scr, isNon, CV.d, isTys, isTy, List.getElem?_cons_zero, List.getElem?_cons_succ, List.set_cons_zero, List.set_cons_succ, put_same, put_put, wipeE, tgSlots, pureSC, List.length_map, List.length_cons, List.length_nil, Bool.or_false, Bool.or_true, Bool.not_true, Bool.not_false, p_ix, p_six, p_len, p_tup, Ext_r, reduceCtorEq, decide_true, decide_false, decide_eq_true_eq, or_true, true_or, or_false, false_or, and_self, true_and, and_true, false_and, and_false, Bool.false_eq_true, Bool.true_eq_false, false_implies, true_implies, implies_true, not_true_eq_false, not_false_eq_true, startE, List.map_cons, List.map_nil, Nat.reduceAdd, Nat.reduceSub, Nat.reduceMul, List.replicate_succ, List.replicate_zero, List.cons_append, List.nil_append, decide_eq_false_iff_not, List.getElem?_map, Option.map_some, p_isL, p_appX, Bool.false_bne, Bool.true_bne, beq_self_eq_true,  e3, cut_take (Int.natCast_nonneg 0)]
    rw [← ht]
    rfl
theorem b__law_trimmed : BodyOk [] [] 1 ir__law_trimmed sp_trim := by
  rintro ds M Q E c cs ⟨d, xs, rfl, hd, hl, q⟩
  refine sSs_mono (C := pureSC M (tp (trim xs))) (E := noE) _ ⟨fun ρ M' z => ?_, fun d M' z => ?_, fun _ _ z => z.elim, fun _ _ z => z.elim⟩ (fun _ _ z => z.elim) ?_
  · cases z.1
  · obtain ⟨rfl, x⟩ := z
    exact Drop.ext c cl_tp x q
  have e1 := fun own Q => rd_lst (own := own) (Q := Q) hd
  unfold ir__law_trimmed
  try simp only [↓x_var, ↓x_cst, ↓x_glob, ↓x_tup, ↓x_lst, ↓x_bin, ↓x_neg, ↓x_not, ↓x_and, ↓x_or, ↓x_cmp, ↓x_isN, ↓x_ite, ↓x_ix, ↓x_sl, ↓x_call, ↓x_call0, ↓x_blt, ↓x_isi, ↓x_lc, ↓x_nil, ↓x_cons, ↓x_and1, ↓x_and2, ↓x_or1, ↓x_or2, ↓x_ioN, ↓x_ioS, ↓x_seq, ↓x_rng1, ↓x_rng2, ↓x_pop, ↓x_disp, ↓x_rev, revX_tup, x_end, ↓x_snil, ↓x_scons, ↓x_set, ↓x_par, ↓x_par3, ↓x_unp, ↓x_six, ↓x_exp, ↓x_app, ↓x_ret, ↓x_retN, ↓x_pass, ↓x_brk, ↓x_cont, ↓x_never, ↓x_if, ↓x_for, ↓x_while, refX_ref, v_get, v_getO, v_getI, v_lst, v_ift, v_iff, v_ifn, v_ifd, v_ife, v_if0, v_ifb, v_newF, v_newT, v_tup, v_add, v_sub, v_mul, v_fdiv, v_mod, v_pow, v_addT, v_addL, v_mulL, v_lt, v_le, v_gt, v_ge, v_eqI, v_neI, v_eqB, v_neB, v_ixT, v_ixL, v_slT, v_slL, v_slS, v_lenT, v_lenL, v_int, v_abs, v_max2, v_min2, v_gcd, v_tupT, v_tupL, v_lstT, v_lstL, v_tg1, v_tg2, v_tg3, t_bl, t_int, t_non, s_tup, s_lst, s_scr, isNon, CV.d, isTys, isTy, List.getElem?_cons_zero, List.getElem?_cons_succ, List.set_cons_zero, List.set_cons_succ, put_same, put_put, wipeE, tgSlots, pureSC, List.length_map, List.length_cons, List.length_nil, Bool.or_false, Bool.or_true, Bool.not_true, Bool.not_false, p_ix, p_six, p_len, p_tup, Ext_r, reduceCtorEq, decide_true, decide_false, decide_eq_true_eq, or_true, true_or, or_false, false_or, and_self, true_and, and_true, false_and, and_false, Bool.false_eq_true, Bool.true_eq_false, false_implies, true_implies, implies_true, not_true_eq_false, not_false_eq_true, startE, List.map_cons, List.map_nil, Nat.reduceAdd, Nat.reduceSub, Nat.reduceMul, List.replicate_succ, List.replicate_zero, List.cons_append, List.nil_append, decide_eq_false_iff_not, List.getElem?_map, Option.map_some, p_isL, p_appX, Bool.false_bne, Bool.true_bne, beq_self_eq_true,  e1]
  intro p hp
  refine while_ind (fun m ρ M' => m ≤ xs.length ∧ M' = put M p (.lst ((xs.take m).map D.int)) ∧ ρ = [some (.ref p)] ∧ trim (xs.take m) = trim xs) xs.length ⟨Nat.le_refl _, by rw [List.take_length], rfl, by rw [List.take_length]⟩ ?_
  rintro m ρ M' ⟨hm, rfl, rfl, ht⟩
  try simp only [↓x_var, ↓x_cst, ↓x_glob, ↓x_tup, ↓x_lst, ↓x_bin, ↓x_neg, ↓x_not, ↓x_and, ↓x_or, ↓x_cmp, ↓x_isN, ↓x_ite, ↓x_ix, ↓x_sl, ↓x_call, ↓x_call0, ↓x_blt, ↓x_isi, ↓x_lc, ↓x_nil, ↓x_cons, ↓x_and1, ↓x_and2, ↓x_or1, ↓x_or2, ↓x_ioN, ↓x_ioS, ↓x_seq, ↓x_rng1, ↓x_rng2, ↓x_pop, ↓x_disp, ↓x_rev, revX_tup, x_end, ↓x_snil, ↓x_scons, ↓x_set, ↓x_par, ↓x_par3, ↓x_unp, ↓x_six, ↓x_exp, ↓x_app, ↓x_ret, ↓x_retN, ↓x_pass, ↓x_brk, ↓x_cont, ↓x_never, ↓x_if, ↓x_for, ↓x_while, refX_ref, v_get, v_getO, v_getI, v_lst, v_ift, v_iff, v_ifn, v_ifd, v_ife, v_if0, v_ifb, v_newF, v_newT, v_tup, v_add, v_sub, v_mul, v_fdiv, v_mod, v_pow, v_addT, v_addL, v_mulL, v_lt, v_le, v_gt, v_ge, v_eqI, v_neI, v_eqB, v_neB, v_ixT, v_ixL, v_slT, v_slL, v_slS, v_lenT, v_lenL, v_int, v_abs, v_max2, v_min2, v_gcd, v_tupT, v_tupL, v_lstT, v_lstL, v_tg1, v_tg2, v_tg3, t_bl, t_int, t_non, s_tup, s_lst, s_scr, isNon, CV.d, isTys, isTy, List.getElem?_cons_zero, List.getElem?_cons_succ, List.set_cons_zero, List.set_cons_succ, put_same, put_put, wipeE, tgSlots, pureSC, List.length_map, List.length_cons, List.length_nil, Bool.or_false, Bool.or_true, Bool.not_true, Bool.not_false, p_ix, p_six, p_len, p_tup, Ext_r, reduceCtorEq, decide_true, decide_false, decide_eq_true_eq, or_true, true_or, or_false, false_or, and_self, true_and, and_true, false_and, and_false, Bool.false_eq_true, Bool.true_eq_false, false_implies, true_implies, implies_true, not_true_eq_false, not_false_eq_true, startE, List.map_cons, List.map_nil, Nat.reduceAdd, Nat.reduceSub, Nat.reduceMul, List.replicate_succ, List.replicate_zero, List.cons_append, List.nil_append, decide_eq_false_iff_not, List.getElem?_map, Option.map_some, p_isL, p_appX, Bool.false_bne, Bool.true_bne, beq_self_eq_true,  atI_m1]
  have el : (xs.take m).length = m := by rw [List.length_take]; omega
  refine ⟨fun h => ?_, fun h => ?_⟩
  · rw [el] at h
    obtain ⟨m, rfl⟩ : ∃ k, m = k + 1 := ⟨m - 1, by omega⟩
    have ex : xs[m]? = some (xs[m]'(by omega)) := List.getElem?_eq_getElem (by omega)
    have tk := take_snoc ex
    rw [tk, List.map_append, List.map_cons, List.map_nil, List.getLast?_concat]
    try simp only [↓x_var, ↓x_cst, ↓x_glob, ↓x_tup, ↓x_lst, ↓x_bin, ↓x_neg, ↓x_not, ↓x_and, ↓x_or, ↓x_cmp, ↓x_isN, ↓x_ite, ↓x_ix, ↓x_sl, ↓x_call, ↓x_call0, ↓x_blt, ↓x_isi, ↓x_lc, ↓x_nil, ↓x_cons, ↓x_and1, ↓x_and2, ↓x_or1, ↓x_or2, ↓x_ioN, ↓x_ioS, ↓x_seq, ↓x_rng1, ↓x_rng2, ↓x_pop, ↓x_disp, ↓x_rev, revX_tup, x_end, ↓x_snil, ↓x_scons, ↓x_set, ↓x_par, ↓x_par3, ↓x_unp, ↓x_six, ↓x_exp, ↓x_app, ↓x_ret, ↓x_retN, ↓x_pass, ↓x_brk, ↓x_cont, ↓x_never, ↓x_if, ↓x_for, ↓x_while, refX_ref, v_get, v_getO, v_getI, v_lst, v_ift, v_iff, v_ifn, v_ifd, v_ife, v_if0, v_ifb, v_newF, v_newT, v_tup, v_add, v_sub, v_mul, v_fdiv, v_mod, v_pow, v_addT, v_addL, v_mulL, v_lt, v_le, v_gt, v_ge, v_eqI, v_neI, v_eqB, v_neB, v_ixT, v_ixL, v_slT, v_slL, v_slS, v_lenT, v_lenL, v_int, v_abs, v_max2, v_min2, v_gcd, v_tupT, v_tupL, v_lstT, v_lstL, v_tg1, v_tg2, v_tg3, t_bl, t_int, t_non, s_tup, s_lst, s_scr, isNon, CV.d, isTys, isTy, List.getElem?_cons_zero, List.getElem?_cons_succ, List.set_cons_zero, List.set_cons_succ, put_same, put_put, wipeE, tgSlots, pureSC, List.length_map, List.length_cons, List.length_nil, Bool.or_false, Bool.or_true, Bool.not_true, Bool.not_false, p_ix, p_six, p_len, p_tup, Ext_r, reduceCtorEq, decide_true, decide_false, decide_eq_true_eq, or_true, true_or, or_false, false_or, and_self, true_and, and_true, false_and, and_false, Bool.false_eq_true, Bool.true_eq_false, false_implies, true_implies, implies_true, not_true_eq_false, not_false_eq_true, startE, List.map_cons, List.map_nil, Nat.reduceAdd, Nat.reduceSub, Nat.reduceMul, List.replicate_succ, List.replicate_zero, List.cons_append, List.nil_append, decide_eq_false_iff_not, List.getElem?_map, Option.map_some, p_isL, p_appX, Bool.false_bne, Bool.true_bne, beq_self_eq_true]
    refine ⟨fun h0 => ?_, fun h0 => ?_⟩
    · skip
      refine ⟨p, _, .int 0, rfl, put_same, ?_, m, by omega, by omega, ?_, ?_⟩
      · rw [List.length_append]; simp [h0]
      · rw [put_put, List.dropLast_concat]
      · rw [← ht, tk, h0, trim_zero]
    · rw [← ht, tk, trim_last h0]
      unfold tp
      rw [List.map_append]
      exact ⟨rfl, Ext.refl.put hp⟩
  · rw [el] at h
    have : m = 0 := by omega
    subst this
    rw [← ht]
    exact ⟨fun z => absurd z (by simp), fun _ => ⟨rfl, Ext.refl.put hp⟩⟩
/-! ### whole powers -/
def sp_power : DSp := pf 2 (fun a : Int × Nat => [.int a.1, .int a.2]) (fun a => Bit 64 a.1 ∧ a.2 ≤ 64) (fun a => .int (a.1 ^ a.2))
theorem b_whole_power : BodyOk [] [] 4 ir_whole_power sp_power := by
  refine body_pf (fun a M _ => .int _) fun ⟨b, k⟩ M h _ => ?_
  obtain ⟨hb, hk⟩ := h
  dsimp only at hb hk
  unfold ir_whole_power
  try simp only [↓x_var, ↓x_cst, ↓x_glob, ↓x_tup, ↓x_lst, ↓x_bin, ↓x_neg, ↓x_not, ↓x_and, ↓x_or, ↓x_cmp, ↓x_isN, ↓x_ite, ↓x_ix, ↓x_sl, ↓x_call, ↓x_call0, ↓x_blt, ↓x_isi, ↓x_lc, ↓x_nil, ↓x_cons, ↓x_and1, ↓x_and2, ↓x_or1, ↓x_or2, ↓x_ioN, ↓x_ioS, ↓x_seq, ↓x_rng1, ↓x_rng2, ↓x_pop, ↓x_disp, ↓x_rev, revX_tup, x_end, ↓x_snil, ↓x_scons, ↓x_set, ↓x_par, ↓x_par3, ↓x_unp, ↓x_six, ↓x_exp, ↓x_app, ↓x_ret, ↓x_retN, ↓x_pass, ↓x_brk, ↓x_cont, ↓x_never, ↓x_if, ↓x_for, ↓x_while, refX_ref, v_get, v_getO, v_getI, v_lst, v_ift, v_iff, v_ifn, v_ifd, v_ife, v_if0, v_ifb, v_newF, v_newT, v_tup, v_add, v_sub, v_mul, v_fdiv, v_mod, v_pow, v_addT, v_addL, v_mulL, v_lt, v_le, v_gt, v_ge, v_eqI, v_neI, v_eqB, v_neB, v_ixT, v_ixL, v_slT, v_slL, v_slS, v_lenT, v_lenL, v_int, v_abs, v_max2, v_min2, v_gcd, v_tupT, v_tupL, v_lstT, v_lstL, v_tg1, v_tg2, v_tg3, t_bl, t_int, t_non, s_tup, s_lst, s_scr, isNon, CV.d, isTys, isTy, List.getElem?_cons_zero, List.getElem?_cons_succ, List.set_cons_zero, List.set_cons_succ, put_same, put_put, wipeE, tgSlots, pureSC, List.length_map, List.length_cons, List.length_nil, Bool.or_false, Bool.or_true, Bool.not_true, Bool.not_false, p_ix, p_six, p_len, p_tup, Ext_r, reduceCtorEq, decide_true, decide_false, decide_eq_true_eq, or_true, true_or, or_false, false_or, and_self, true_and, and_true, false_and, and_false, Bool.false_eq_true, Bool.true_eq_false, false_implies, true_implies, implies_true, not_true_eq_false, not_false_eq_true, startE, List.map_cons, List.map_nil, Nat.reduceAdd, Nat.reduceSub, Nat.reduceMul, List.replicate_succ, List.replicate_zero, List.cons_append, List.nil_append, decide_eq_false_iff_not, List.getElem?_map, Option.map_some, p_isL, p_appX, Bool.false_bne, Bool.true_bne, beq_self_eq_true]
  refine while_ind (fun m ρ M' => M' = M ∧ ∃ f g : Int, ρ = [some (.int b), some (.int m), some (.int f), some (.int g)] ∧ f * g ^ m = b ^ k ∧ ∃ u v : Nat, Bit u f ∧ Bit v g ∧ u + v * m ≤ 1 + 64 * k ∧ v ≤ 200 * 64) k ⟨rfl, 1, b, rfl, by rw [Int.one_mul], 1, 64, by unfold Bit; decide, hb, by omega, by decide⟩ ?_
  rintro m ρ M' ⟨rfl, f, g, rfl, he, u, v, hu, hv, h1, h2⟩
  try simp only [↓x_var, ↓x_cst, ↓x_glob, ↓x_tup, ↓x_lst, ↓x_bin, ↓x_neg, ↓x_not, ↓x_and, ↓x_or, ↓x_cmp, ↓x_isN, ↓x_ite, ↓x_ix, ↓x_sl, ↓x_call, ↓x_call0, ↓x_blt, ↓x_isi, ↓x_lc, ↓x_nil, ↓x_cons, ↓x_and1, ↓x_and2, ↓x_or1, ↓x_or2, ↓x_ioN, ↓x_ioS, ↓x_seq, ↓x_rng1, ↓x_rng2, ↓x_pop, ↓x_disp, ↓x_rev, revX_tup, x_end, ↓x_snil, ↓x_scons, ↓x_set, ↓x_par, ↓x_par3, ↓x_unp, ↓x_six, ↓x_exp, ↓x_app, ↓x_ret, ↓x_retN, ↓x_pass, ↓x_brk, ↓x_cont, ↓x_never, ↓x_if, ↓x_for, ↓x_while, refX_ref, v_get, v_getO, v_getI, v_lst, v_ift, v_iff, v_ifn, v_ifd, v_ife, v_if0, v_ifb, v_newF, v_newT, v_tup, v_add, v_sub, v_mul, v_fdiv, v_mod, v_pow, v_addT, v_addL, v_mulL, v_lt, v_le, v_gt, v_ge, v_eqI, v_neI, v_eqB, v_neB, v_ixT, v_ixL, v_slT, v_slL, v_slS, v_lenT, v_lenL, v_int, v_abs, v_max2, v_min2, v_gcd, v_tupT, v_tupL, v_lstT, v_lstL, v_tg1, v_tg2, v_tg3, t_bl, t_int, t_non, s_tup, s_lst, s_scr, isNon, CV.d, isTys, isTy, List.getElem?_cons_zero, List.getElem?_cons_succ, List.set_cons_zero, List.set_cons_succ, put_same, put_put, wipeE, tgSlots, pureSC, List.length_map, List.length_cons, List.length_nil, Bool.or_false, Bool.or_true, Bool.not_true, Bool.not_false, p_ix, p_six, p_len, p_tup, Ext_r, reduceCtorEq, decide_true, decide_false, decide_eq_true_eq, or_true, true_or, or_false, false_or, and_self, true_and, and_true, false_and, and_false, Bool.false_eq_true, Bool.true_eq_false, false_implies, true_implies, implies_true, not_true_eq_false, not_false_eq_true, startE, List.map_cons, List.map_nil, Nat.reduceAdd, Nat.reduceSub, Nat.reduceMul, List.replicate_succ, List.replicate_zero, List.cons_append, List.nil_append, decide_eq_false_iff_not, List.getElem?_map, Option.map_some, p_isL, p_appX, Bool.false_bne, Bool.true_bne, beq_self_eq_true]
  have um : u ≤ 10000 := by
    have : 64 * k ≤ 64 * 64 := Nat.mul_le_mul_left _ hk
    omega
  refine ⟨fun h => ⟨by omega, ?_⟩, fun h => ?_⟩
  · have vm : v ≤ 64 * 64 + 1 := by
      have : v * 1 ≤ v * m := Nat.mul_le_mul_left _ (by omega)
      have : 64 * k ≤ 64 * 64 := Nat.mul_le_mul_left _ hk
      omega
    have ed : (m : Int).fdiv 2 = (m / 2 : Nat) := by rw [Int.fdiv_eq_ediv_of_nonneg _ (by decide)]; rfl
    have em : (m : Int).fmod 2 = (m % 2 : Nat) := by rw [Int.fmod_eq_emod_of_nonneg _ (by decide)]; rfl
    have hm := Nat.div_add_mod m 2
    rw [ed, em]
    refine ⟨fun o => ⟨?_, ?_, ?_, ?_⟩, fun o => ⟨?_, ?_, ?_⟩⟩
    · exact mulOk_of' hu hv (by omega)
    · exact mulOk_of' hv hv (by omega)
    · exact divOk2
    · have h3 : m % 2 = 1 := by omega
      have e1 : f * g * (g * g) ^ (m / 2) = f * g ^ m := by
        conv => rhs; rw [← hm, h3]
        rw [Int.pow_add, Int.pow_mul, Int.pow_succ g 0, Int.pow_zero, Int.one_mul, show g ^ 2 = g * g by rw [Int.pow_succ, Int.pow_succ, Int.pow_zero, Int.one_mul], Int.mul_assoc, Int.mul_comm g]
      have e2 : u + v + (v + v) * (m / 2) ≤ 1 + 64 * k := by
        have : v * m = v * (2 * (m / 2) + 1) := by rw [← h3, hm]
        rw [Nat.mul_add, ← Nat.mul_assoc, Nat.mul_comm v 2, Nat.two_mul] at this
        omega
      exact ⟨m / 2, by omega, f * g, g * g, rfl, e1.trans he, u + v, v + v, hu.mul hv, hv.mul hv, e2, by omega⟩
    · exact mulOk_of' hv hv (by omega)
    · exact divOk2
    · have h3 : m % 2 = 0 := by omega
      have e1 : f * (g * g) ^ (m / 2) = f * g ^ m := by
        conv => rhs; rw [← hm, h3]
        rw [Nat.add_zero, Int.pow_mul, show g ^ 2 = g * g by rw [Int.pow_succ, Int.pow_succ, Int.pow_zero, Int.one_mul]]
      have e2 : u + (v + v) * (m / 2) ≤ 1 + 64 * k := by
        have : v * m = v * (2 * (m / 2)) := by rw [← Nat.add_zero (2 * (m / 2)), ← h3, hm]
        rw [← Nat.mul_assoc, Nat.mul_comm v 2, Nat.two_mul] at this
        omega
      exact ⟨m / 2, by omega, f, g * g, rfl, e1.trans he, u, v + v, hu, hv.mul hv, e2, by omega⟩
  · have : m = 0 := by omega
    subst this
    rw [← he]; simp
/-! ### entries, sums, multiples -/
def sp_at : DSp := pf 2 (fun a : List Int × Nat => [tp a.1, .int a.2]) (fun _ => True) (fun a => .int (a.1.getD a.2 0))
theorem b_at_number : BodyOk [] [] 2 ir_at_number sp_at := by
  refine body_pf (fun a M _ => .int _) fun ⟨xs, k⟩ M _ _ => ?_
  unfold ir_at_number
  try simp only [↓x_var, ↓x_cst, ↓x_glob, ↓x_tup, ↓x_lst, ↓x_bin, ↓x_neg, ↓x_not, ↓x_and, ↓x_or, ↓x_cmp, ↓x_isN, ↓x_ite, ↓x_ix, ↓x_sl, ↓x_call, ↓x_call0, ↓x_blt, ↓x_isi, ↓x_lc, ↓x_nil, ↓x_cons, ↓x_and1, ↓x_and2, ↓x_or1, ↓x_or2, ↓x_ioN, ↓x_ioS, ↓x_seq, ↓x_rng1, ↓x_rng2, ↓x_pop, ↓x_disp, ↓x_rev, revX_tup, x_end, ↓x_snil, ↓x_scons, ↓x_set, ↓x_par, ↓x_par3, ↓x_unp, ↓x_six, ↓x_exp, ↓x_app, ↓x_ret, ↓x_retN, ↓x_pass, ↓x_brk, ↓x_cont, ↓x_never, ↓x_if, ↓x_for, ↓x_while, refX_ref, v_get, v_getO, v_getI, v_lst, v_ift, v_iff, v_ifn, v_ifd, v_ife, v_if0, v_ifb, v_newF, v_newT, v_tup, v_add, v_sub, v_mul, v_fdiv, v_mod, v_pow, v_addT, v_addL, v_mulL, v_lt, v_le, v_gt, v_ge, v_eqI, v_neI, v_eqB, v_neB, v_ixT, v_ixL, v_slT, v_slL, v_slS, v_lenT, v_lenL, v_int, v_abs, v_max2, v_min2, v_gcd, v_tupT, v_tupL, v_lstT, v_lstL, v_tg1, v_tg2, v_tg3, t_bl, t_int, t_non, s_tup, s_lst, s_scr, isNon, CV.d, isTys, isTy, List.getElem?_cons_zero, List.getElem?_cons_succ, List.set_cons_zero, List.set_cons_succ, put_same, put_put, wipeE, tgSlots, pureSC, List.length_map, List.length_cons, List.length_nil, Bool.or_false, Bool.or_true, Bool.not_true, Bool.not_false, p_ix, p_six, p_len, p_tup, Ext_r, reduceCtorEq, decide_true, decide_false, decide_eq_true_eq, or_true, true_or, or_false, false_or, and_self, true_and, and_true, false_and, and_false, Bool.false_eq_true, Bool.true_eq_false, false_implies, true_implies, implies_true, not_true_eq_false, not_false_eq_true, startE, List.map_cons, List.map_nil, Nat.reduceAdd, Nat.reduceSub, Nat.reduceMul, List.replicate_succ, List.replicate_zero, List.cons_append, List.nil_append, decide_eq_false_iff_not, List.getElem?_map, Option.map_some, p_isL, p_appX, Bool.false_bne, Bool.true_bne, beq_self_eq_true,  atI_nat]
  refine ⟨fun h => ?_, fun h => ?_⟩
  · have ex : xs[k]? = some (xs[k]'(by omega)) := List.getElem?_eq_getElem (by omega)
    rw [ex]
    try simp only [↓x_var, ↓x_cst, ↓x_glob, ↓x_tup, ↓x_lst, ↓x_bin, ↓x_neg, ↓x_not, ↓x_and, ↓x_or, ↓x_cmp, ↓x_isN, ↓x_ite, ↓x_ix, ↓x_sl, ↓x_call, ↓x_call0, ↓x_blt, ↓x_isi, ↓x_lc, ↓x_nil, ↓x_cons, ↓x_and1, ↓x_and2, ↓x_or1, ↓x_or2, ↓x_ioN, ↓x_ioS, ↓x_seq, ↓x_rng1, ↓x_rng2, ↓x_pop, ↓x_disp, ↓x_rev, revX_tup, x_end, ↓x_snil, ↓x_scons, ↓x_set, ↓x_par, ↓x_par3, ↓x_unp, ↓x_six, ↓x_exp, ↓x_app, ↓x_ret, ↓x_retN, ↓x_pass, ↓x_brk, ↓x_cont, ↓x_never, ↓x_if, ↓x_for, ↓x_while, refX_ref, v_get, v_getO, v_getI, v_lst, v_ift, v_iff, v_ifn, v_ifd, v_ife, v_if0, v_ifb, v_newF, v_newT, v_tup, v_add, v_sub, v_mul, v_fdiv, v_mod, v_pow, v_addT, v_addL, v_mulL, v_lt, v_le, v_gt, v_ge, v_eqI, v_neI, v_eqB, v_neB, v_ixT, v_ixL, v_slT, v_slL, v_slS, v_lenT, v_lenL, v_int, v_abs, v_max2, v_min2, v_gcd, v_tupT, v_tupL, v_lstT, v_lstL, v_tg1, v_tg2, v_tg3, t_bl, t_int, t_non, s_tup, s_lst, s_scr, isNon, CV.d, isTys, isTy, List.getElem?_cons_zero, List.getElem?_cons_succ, List.set_cons_zero, List.set_cons_succ, put_same, put_put, wipeE, tgSlots, pureSC, List.length_map, List.length_cons, List.length_nil, Bool.or_false, Bool.or_true, Bool.not_true, Bool.not_false, p_ix, p_six, p_len, p_tup, Ext_r, reduceCtorEq, decide_true, decide_false, decide_eq_true_eq, or_true, true_or, or_false, false_or, and_self, true_and, and_true, false_and, and_false, Bool.false_eq_true, Bool.true_eq_false, false_implies, true_implies, implies_true, not_true_eq_false, not_false_eq_true, startE, List.map_cons, List.map_nil, Nat.reduceAdd, Nat.reduceSub, Nat.reduceMul, List.replicate_succ, List.replicate_zero, List.cons_append, List.nil_append, decide_eq_false_iff_not, List.getElem?_map, Option.map_some, p_isL, p_appX, Bool.false_bne, Bool.true_bne, beq_self_eq_true,  List.getD_eq_getElem?_getD, ex, Option.getD_some]
  · rw [List.getD_eq_getElem?_getD, List.getElem?_eq_none (by omega)]; rfl
theorem call_trim {ds : List D} {M : Mem} {Q : D → Mem → Prop} {E : Exn → Mem → Prop} (xs : List Int) (hl : xs.length < 100000) (q : Q (tp (trim xs)) M) (d : D) (hd : rs M d = li xs) (e : ds = [d] := by rfl) : callV (some sp_trim) ds M Q E := ⟨_, rfl, d, xs, e, hd, hl, q⟩
def addF (n : Nat) (xs ys : List Int) : List Int := trim ((List.range n).map fun k => xs.getD k 0 + ys.getD k 0)
def subF (n : Nat) (xs ys : List Int) : List Int := trim ((List.range n).map fun k => xs.getD k 0 - ys.getD k 0)
def sp_added : DSp := pf 2 (fun a : List Int × List Int => [tp a.1, tp a.2]) (fun a => a.1.length ≤ 500 ∧ a.2.length ≤ 500) (fun a => tp (addF (max a.1.length a.2.length) a.1 a.2))
theorem b_poly_added : BodyOk [sp_trim, sp_at] [] 3 ir_poly_added sp_added := by
  refine body_pf (fun a M _ => cl_tp) fun ⟨xs, ys⟩ M h _ => ?_
  obtain ⟨h1, h2⟩ := h
  dsimp only at h1 h2
  unfold ir_poly_added
  try simp only [↓x_var, ↓x_cst, ↓x_glob, ↓x_tup, ↓x_lst, ↓x_bin, ↓x_neg, ↓x_not, ↓x_and, ↓x_or, ↓x_cmp, ↓x_isN, ↓x_ite, ↓x_ix, ↓x_sl, ↓x_call, ↓x_call0, ↓x_blt, ↓x_isi, ↓x_lc, ↓x_nil, ↓x_cons, ↓x_and1, ↓x_and2, ↓x_or1, ↓x_or2, ↓x_ioN, ↓x_ioS, ↓x_seq, ↓x_rng1, ↓x_rng2, ↓x_pop, ↓x_disp, ↓x_rev, revX_tup, x_end, ↓x_snil, ↓x_scons, ↓x_set, ↓x_par, ↓x_par3, ↓x_unp, ↓x_six, ↓x_exp, ↓x_app, ↓x_ret, ↓x_retN, ↓x_pass, ↓x_brk, ↓x_cont, ↓x_never, ↓x_if, ↓x_for, ↓x_while, refX_ref, v_get, v_getO, v_getI, v_lst, v_ift, v_iff, v_ifn, v_ifd, v_ife, v_if0, v_ifb, v_newF, v_newT, v_tup, v_add, v_sub, v_mul, v_fdiv, v_mod, v_pow, v_addT, v_addL, v_mulL, v_lt, v_le, v_gt, v_ge, v_eqI, v_neI, v_eqB, v_neB, v_ixT, v_ixL, v_slT, v_slL, v_slS, v_lenT, v_lenL, v_int, v_abs, v_max2, v_min2, v_gcd, v_tupT, v_tupL, v_lstT, v_lstL, v_tg1, v_tg2, v_tg3, t_bl, t_int, t_non, s_tup, s_lst, s_scr, isNon, CV.d, isTys, isTy, List.getElem?_cons_zero, List.getElem?_cons_succ, List.set_cons_zero, List.set_cons_succ, put_same, put_put, wipeE, tgSlots, pureSC, List.length_map, List.length_cons, List.length_nil, Bool.or_false, Bool.or_true, Bool.not_true, Bool.not_false, p_ix, p_six, p_len, p_tup, Ext_r, reduceCtorEq, decide_true, decide_false, decide_eq_true_eq, or_true, true_or, or_false, false_or, and_self, true_and, and_true, false_and, and_false, Bool.false_eq_true, Bool.true_eq_false, false_implies, true_implies, implies_true, not_true_eq_false, not_false_eq_true, startE, List.map_cons, List.map_nil, Nat.reduceAdd, Nat.reduceSub, Nat.reduceMul, List.replicate_succ, List.replicate_zero, List.cons_append, List.nil_append, decide_eq_false_iff_not, List.getElem?_map, Option.map_some, p_isL, p_appX, Bool.false_bne, Bool.true_bne, beq_self_eq_true]
  have e : (max (xs.length : Int) ys.length).toNat = max xs.length ys.length := by omega
  refine ⟨by omega, ?_⟩
  refine lc_pure (fun k : Nat => .int k) (fun k => .int (xs.getD k 0 + ys.getD k 0)) (List.range (max xs.length ys.length)) (by rw [← e]) (by rw [List.length_range]; unfold sizeLine; omega) trivial (fun k _ => ?_) ?_
  · try simp only [↓x_var, ↓x_cst, ↓x_glob, ↓x_tup, ↓x_lst, ↓x_bin, ↓x_neg, ↓x_not, ↓x_and, ↓x_or, ↓x_cmp, ↓x_isN, ↓x_ite, ↓x_ix, ↓x_sl, ↓x_call, ↓x_call0, ↓x_blt, ↓x_isi, ↓x_lc, ↓x_nil, ↓x_cons, ↓x_and1, ↓x_and2, ↓x_or1, ↓x_or2, ↓x_ioN, ↓x_ioS, ↓x_seq, ↓x_rng1, ↓x_rng2, ↓x_pop, ↓x_disp, ↓x_rev, revX_tup, x_end, ↓x_snil, ↓x_scons, ↓x_set, ↓x_par, ↓x_par3, ↓x_unp, ↓x_six, ↓x_exp, ↓x_app, ↓x_ret, ↓x_retN, ↓x_pass, ↓x_brk, ↓x_cont, ↓x_never, ↓x_if, ↓x_for, ↓x_while, refX_ref, v_get, v_getO, v_getI, v_lst, v_ift, v_iff, v_ifn, v_ifd, v_ife, v_if0, v_ifb, v_newF, v_newT, v_tup, v_add, v_sub, v_mul, v_fdiv, v_mod, v_pow, v_addT, v_addL, v_mulL, v_lt, v_le, v_gt, v_ge, v_eqI, v_neI, v_eqB, v_neB, v_ixT, v_ixL, v_slT, v_slL, v_slS, v_lenT, v_lenL, v_int, v_abs, v_max2, v_min2, v_gcd, v_tupT, v_tupL, v_lstT, v_lstL, v_tg1, v_tg2, v_tg3, t_bl, t_int, t_non, s_tup, s_lst, s_scr, isNon, CV.d, isTys, isTy, List.getElem?_cons_zero, List.getElem?_cons_succ, List.set_cons_zero, List.set_cons_succ, put_same, put_put, wipeE, tgSlots, pureSC, List.length_map, List.length_cons, List.length_nil, Bool.or_false, Bool.or_true, Bool.not_true, Bool.not_false, p_ix, p_six, p_len, p_tup, Ext_r, reduceCtorEq, decide_true, decide_false, decide_eq_true_eq, or_true, true_or, or_false, false_or, and_self, true_and, and_true, false_and, and_false, Bool.false_eq_true, Bool.true_eq_false, false_implies, true_implies, implies_true, not_true_eq_false, not_false_eq_true, startE, List.map_cons, List.map_nil, Nat.reduceAdd, Nat.reduceSub, Nat.reduceMul, List.replicate_succ, List.replicate_zero, List.cons_append, List.nil_append, decide_eq_false_iff_not, List.getElem?_map, Option.map_some, p_isL, p_appX, Bool.false_bne, Bool.true_bne, beq_self_eq_true]
    refine call_pf (xs, k) rfl trivial ?_
    try simp only [↓x_var, ↓x_cst, ↓x_glob, ↓x_tup, ↓x_lst, ↓x_bin, ↓x_neg, ↓x_not, ↓x_and, ↓x_or, ↓x_cmp, ↓x_isN, ↓x_ite, ↓x_ix, ↓x_sl, ↓x_call, ↓x_call0, ↓x_blt, ↓x_isi, ↓x_lc, ↓x_nil, ↓x_cons, ↓x_and1, ↓x_and2, ↓x_or1, ↓x_or2, ↓x_ioN, ↓x_ioS, ↓x_seq, ↓x_rng1, ↓x_rng2, ↓x_pop, ↓x_disp, ↓x_rev, revX_tup, x_end, ↓x_snil, ↓x_scons, ↓x_set, ↓x_par, ↓x_par3, ↓x_unp, ↓x_six, ↓x_exp, ↓x_app, ↓x_ret, ↓x_retN, ↓x_pass, ↓x_brk, ↓x_cont, ↓x_never, ↓x_if, ↓x_for, ↓x_while, refX_ref, v_get, v_getO, v_getI, v_lst, v_ift, v_iff, v_ifn, v_ifd, v_ife, v_if0, v_ifb, v_newF, v_newT, v_tup, v_add, v_sub, v_mul, v_fdiv, v_mod, v_pow, v_addT, v_addL, v_mulL, v_lt, v_le, v_gt, v_ge, v_eqI, v_neI, v_eqB, v_neB, v_ixT, v_ixL, v_slT, v_slL, v_slS, v_lenT, v_lenL, v_int, v_abs, v_max2, v_min2, v_gcd, v_tupT, v_tupL, v_lstT, v_lstL, v_tg1, v_tg2, v_tg3, t_bl, t_int, t_non, s_tup, s_lst, s_scr, isNon, CV.d, isTys, isTy, List.getElem?_cons_zero, List.getElem?_cons_succ, List.set_cons_zero, List.set_cons_succ, put_same, put_put, wipeE, tgSlots, pureSC, List.length_map, List.length_cons, List.length_nil, Bool.or_false, Bool.or_true, Bool.not_true, Bool.not_false, p_ix, p_six, p_len, p_tup, Ext_r, reduceCtorEq, decide_true, decide_false, decide_eq_true_eq, or_true, true_or, or_false, false_or, and_self, true_and, and_true, false_and, and_false, Bool.false_eq_true, Bool.true_eq_false, false_implies, true_implies, implies_true, not_true_eq_false, not_false_eq_true, startE, List.map_cons, List.map_nil, Nat.reduceAdd, Nat.reduceSub, Nat.reduceMul, List.replicate_succ, List.replicate_zero, List.cons_append, List.nil_append, decide_eq_false_iff_not, List.getElem?_map, Option.map_some, p_isL, p_appX, Bool.false_bne, Bool.true_bne, beq_self_eq_true]
    refine call_pf (ys, k) rfl trivial ?_
    try simp only [↓x_var, ↓x_cst, ↓x_glob, ↓x_tup, ↓x_lst, ↓x_bin, ↓x_neg, ↓x_not, ↓x_and, ↓x_or, ↓x_cmp, ↓x_isN, ↓x_ite, ↓x_ix, ↓x_sl, ↓x_call, ↓x_call0, ↓x_blt, ↓x_isi, ↓x_lc, ↓x_nil, ↓x_cons, ↓x_and1, ↓x_and2, ↓x_or1, ↓x_or2, ↓x_ioN, ↓x_ioS, ↓x_seq, ↓x_rng1, ↓x_rng2, ↓x_pop, ↓x_disp, ↓x_rev, revX_tup, x_end, ↓x_snil, ↓x_scons, ↓x_set, ↓x_par, ↓x_par3, ↓x_unp, ↓x_six, ↓x_exp, ↓x_app, ↓x_ret, ↓x_retN, ↓x_pass, ↓x_brk, ↓x_cont, ↓x_never, ↓x_if, ↓x_for, ↓x_while, refX_ref, v_get, v_getO, v_getI, v_lst, v_ift, v_iff, v_ifn, v_ifd, v_ife, v_if0, v_ifb, v_newF, v_newT, v_tup, v_add, v_sub, v_mul, v_fdiv, v_mod, v_pow, v_addT, v_addL, v_mulL, v_lt, v_le, v_gt, v_ge, v_eqI, v_neI, v_eqB, v_neB, v_ixT, v_ixL, v_slT, v_slL, v_slS, v_lenT, v_lenL, v_int, v_abs, v_max2, v_min2, v_gcd, v_tupT, v_tupL, v_lstT, v_lstL, v_tg1, v_tg2, v_tg3, t_bl, t_int, t_non, s_tup, s_lst, s_scr, isNon, CV.d, isTys, isTy, List.getElem?_cons_zero, List.getElem?_cons_succ, List.set_cons_zero, List.set_cons_succ, put_same, put_put, wipeE, tgSlots, pureSC, List.length_map, List.length_cons, List.length_nil, Bool.or_false, Bool.or_true, Bool.not_true, Bool.not_false, p_ix, p_six, p_len, p_tup, Ext_r, reduceCtorEq, decide_true, decide_false, decide_eq_true_eq, or_true, true_or, or_false, false_or, and_self, true_and, and_true, false_and, and_false, Bool.false_eq_true, Bool.true_eq_false, false_implies, true_implies, implies_true, not_true_eq_false, not_false_eq_true, startE, List.map_cons, List.map_nil, Nat.reduceAdd, Nat.reduceSub, Nat.reduceMul, List.replicate_succ, List.replicate_zero, List.cons_append, List.nil_append, decide_eq_false_iff_not, List.getElem?_map, Option.map_some, p_isL, p_appX, Bool.false_bne, Bool.true_bne, beq_self_eq_true]
  · try simp only [↓x_var, ↓x_cst, ↓x_glob, ↓x_tup, ↓x_lst, ↓x_bin, ↓x_neg, ↓x_not, ↓x_and, ↓x_or, ↓x_cmp, ↓x_isN, ↓x_ite, ↓x_ix, ↓x_sl, ↓x_call, ↓x_call0, ↓x_blt, ↓x_isi, ↓x_lc, ↓x_nil, ↓x_cons, ↓x_and1, ↓x_and2, ↓x_or1, ↓x_or2, ↓x_ioN, ↓x_ioS, ↓x_seq, ↓x_rng1, ↓x_rng2, ↓x_pop, ↓x_disp, ↓x_rev, revX_tup, x_end, ↓x_snil, ↓x_scons, ↓x_set, ↓x_par, ↓x_par3, ↓x_unp, ↓x_six, ↓x_exp, ↓x_app, ↓x_ret, ↓x_retN, ↓x_pass, ↓x_brk, ↓x_cont, ↓x_never, ↓x_if, ↓x_for, ↓x_while, refX_ref, v_get, v_getO, v_getI, v_lst, v_ift, v_iff, v_ifn, v_ifd, v_ife, v_if0, v_ifb, v_newF, v_newT, v_tup, v_add, v_sub, v_mul, v_fdiv, v_mod, v_pow, v_addT, v_addL, v_mulL, v_lt, v_le, v_gt, v_ge, v_eqI, v_neI, v_eqB, v_neB, v_ixT, v_ixL, v_slT, v_slL, v_slS, v_lenT, v_lenL, v_int, v_abs, v_max2, v_min2, v_gcd, v_tupT, v_tupL, v_lstT, v_lstL, v_tg1, v_tg2, v_tg3, t_bl, t_int, t_non, s_tup, s_lst, s_scr, isNon, CV.d, isTys, isTy, List.getElem?_cons_zero, List.getElem?_cons_succ, List.set_cons_zero, List.set_cons_succ, put_same, put_put, wipeE, tgSlots, pureSC, List.length_map, List.length_cons, List.length_nil, Bool.or_false, Bool.or_true, Bool.not_true, Bool.not_false, p_ix, p_six, p_len, p_tup, Ext_r, reduceCtorEq, decide_true, decide_false, decide_eq_true_eq, or_true, true_or, or_false, false_or, and_self, true_and, and_true, false_and, and_false, Bool.false_eq_true, Bool.true_eq_false, false_implies, true_implies, implies_true, not_true_eq_false, not_false_eq_true, startE, List.map_cons, List.map_nil, Nat.reduceAdd, Nat.reduceSub, Nat.reduceMul, List.replicate_succ, List.replicate_zero, List.cons_append, List.nil_append, decide_eq_false_iff_not, List.getElem?_map, Option.map_some, p_isL, p_appX, Bool.false_bne, Bool.true_bne, beq_self_eq_true]
    refine call_trim ((List.range (max xs.length ys.length)).map fun k => xs.getD k 0 + ys.getD k 0) (by rw [List.length_map, List.length_range]; omega) ⟨rfl, .refl⟩ _ ?_
    unfold rs li; rw [List.map_map]; rfl
def sp_scaled : DSp := pf 2 (fun a : List Int × Int => [tp a.1, .int a.2]) (fun a => a.1.length ≤ 500 ∧ (∀ x ∈ a.1, Bit 1000 x) ∧ Bit 1000 a.2) (fun a => tp (trim (a.1.map (a.2 * ·))))
theorem b_poly_scaled : BodyOk [sp_trim] [] 3 ir_poly_scaled sp_scaled := by
  refine body_pf (fun a M _ => cl_tp) fun ⟨xs, n⟩ M h _ => ?_
  obtain ⟨h1, h2, h3⟩ := h
  dsimp only at h1 h2 h3
  unfold ir_poly_scaled
  try simp only [↓x_var, ↓x_cst, ↓x_glob, ↓x_tup, ↓x_lst, ↓x_bin, ↓x_neg, ↓x_not, ↓x_and, ↓x_or, ↓x_cmp, ↓x_isN, ↓x_ite, ↓x_ix, ↓x_sl, ↓x_call, ↓x_call0, ↓x_blt, ↓x_isi, ↓x_lc, ↓x_nil, ↓x_cons, ↓x_and1, ↓x_and2, ↓x_or1, ↓x_or2, ↓x_ioN, ↓x_ioS, ↓x_seq, ↓x_rng1, ↓x_rng2, ↓x_pop, ↓x_disp, ↓x_rev, revX_tup, x_end, ↓x_snil, ↓x_scons, ↓x_set, ↓x_par, ↓x_par3, ↓x_unp, ↓x_six, ↓x_exp, ↓x_app, ↓x_ret, ↓x_retN, ↓x_pass, ↓x_brk, ↓x_cont, ↓x_never, ↓x_if, ↓x_for, ↓x_while, refX_ref, v_get, v_getO, v_getI, v_lst, v_ift, v_iff, v_ifn, v_ifd, v_ife, v_if0, v_ifb, v_newF, v_newT, v_tup, v_add, v_sub, v_mul, v_fdiv, v_mod, v_pow, v_addT, v_addL, v_mulL, v_lt, v_le, v_gt, v_ge, v_eqI, v_neI, v_eqB, v_neB, v_ixT, v_ixL, v_slT, v_slL, v_slS, v_lenT, v_lenL, v_int, v_abs, v_max2, v_min2, v_gcd, v_tupT, v_tupL, v_lstT, v_lstL, v_tg1, v_tg2, v_tg3, t_bl, t_int, t_non, s_tup, s_lst, s_scr, isNon, CV.d, isTys, isTy, List.getElem?_cons_zero, List.getElem?_cons_succ, List.set_cons_zero, List.set_cons_succ, put_same, put_put, wipeE, tgSlots, pureSC, List.length_map, List.length_cons, List.length_nil, Bool.or_false, Bool.or_true, Bool.not_true, Bool.not_false, p_ix, p_six, p_len, p_tup, Ext_r, reduceCtorEq, decide_true, decide_false, decide_eq_true_eq, or_true, true_or, or_false, false_or, and_self, true_and, and_true, false_and, and_false, Bool.false_eq_true, Bool.true_eq_false, false_implies, true_implies, implies_true, not_true_eq_false, not_false_eq_true, startE, List.map_cons, List.map_nil, Nat.reduceAdd, Nat.reduceSub, Nat.reduceMul, List.replicate_succ, List.replicate_zero, List.cons_append, List.nil_append, decide_eq_false_iff_not, List.getElem?_map, Option.map_some, p_isL, p_appX, Bool.false_bne, Bool.true_bne, beq_self_eq_true]
  refine lc_pure D.int (fun x => .int (n * x)) xs rfl (by unfold sizeLine; omega) trivial (fun x hx => ?_) ?_
  · try simp only [↓x_var, ↓x_cst, ↓x_glob, ↓x_tup, ↓x_lst, ↓x_bin, ↓x_neg, ↓x_not, ↓x_and, ↓x_or, ↓x_cmp, ↓x_isN, ↓x_ite, ↓x_ix, ↓x_sl, ↓x_call, ↓x_call0, ↓x_blt, ↓x_isi, ↓x_lc, ↓x_nil, ↓x_cons, ↓x_and1, ↓x_and2, ↓x_or1, ↓x_or2, ↓x_ioN, ↓x_ioS, ↓x_seq, ↓x_rng1, ↓x_rng2, ↓x_pop, ↓x_disp, ↓x_rev, revX_tup, x_end, ↓x_snil, ↓x_scons, ↓x_set, ↓x_par, ↓x_par3, ↓x_unp, ↓x_six, ↓x_exp, ↓x_app, ↓x_ret, ↓x_retN, ↓x_pass, ↓x_brk, ↓x_cont, ↓x_never, ↓x_if, ↓x_for, ↓x_while, refX_ref, v_get, v_getO, v_getI, v_lst, v_ift, v_iff, v_ifn, v_ifd, v_ife, v_if0, v_ifb, v_newF, v_newT, v_tup, v_add, v_sub, v_mul, v_fdiv, v_mod, v_pow, v_addT, v_addL, v_mulL, v_lt, v_le, v_gt, v_ge, v_eqI, v_neI, v_eqB, v_neB, v_ixT, v_ixL, v_slT, v_slL, v_slS, v_lenT, v_lenL, v_int, v_abs, v_max2, v_min2, v_gcd, v_tupT, v_tupL, v_lstT, v_lstL, v_tg1, v_tg2, v_tg3, t_bl, t_int, t_non, s_tup, s_lst, s_scr, isNon, CV.d, isTys, isTy, List.getElem?_cons_zero, List.getElem?_cons_succ, List.set_cons_zero, List.set_cons_succ, put_same, put_put, wipeE, tgSlots, pureSC, List.length_map, List.length_cons, List.length_nil, Bool.or_false, Bool.or_true, Bool.not_true, Bool.not_false, p_ix, p_six, p_len, p_tup, Ext_r, reduceCtorEq, decide_true, decide_false, decide_eq_true_eq, or_true, true_or, or_false, false_or, and_self, true_and, and_true, false_and, and_false, Bool.false_eq_true, Bool.true_eq_false, false_implies, true_implies, implies_true, not_true_eq_false, not_false_eq_true, startE, List.map_cons, List.map_nil, Nat.reduceAdd, Nat.reduceSub, Nat.reduceMul, List.replicate_succ, List.replicate_zero, List.cons_append, List.nil_append, decide_eq_false_iff_not, List.getElem?_map, Option.map_some, p_isL, p_appX, Bool.false_bne, Bool.true_bne, beq_self_eq_true]
    exact mulOk_of h3 (h2 x hx)
  · try simp only [↓x_var, ↓x_cst, ↓x_glob, ↓x_tup, ↓x_lst, ↓x_bin, ↓x_neg, ↓x_not, ↓x_and, ↓x_or, ↓x_cmp, ↓x_isN, ↓x_ite, ↓x_ix, ↓x_sl, ↓x_call, ↓x_call0, ↓x_blt, ↓x_isi, ↓x_lc, ↓x_nil, ↓x_cons, ↓x_and1, ↓x_and2, ↓x_or1, ↓x_or2, ↓x_ioN, ↓x_ioS, ↓x_seq, ↓x_rng1, ↓x_rng2, ↓x_pop, ↓x_disp, ↓x_rev, revX_tup, x_end, ↓x_snil, ↓x_scons, ↓x_set, ↓x_par, ↓x_par3, ↓x_unp, ↓x_six, ↓x_exp, ↓x_app, ↓x_ret, ↓x_retN, ↓x_pass, ↓x_brk, ↓x_cont, ↓x_never, ↓x_if, ↓x_for, ↓x_while, refX_ref, v_get, v_getO, v_getI, v_lst, v_ift, v_iff, v_ifn, v_ifd, v_ife, v_if0, v_ifb, v_newF, v_newT, v_tup, v_add, v_sub, v_mul, v_fdiv, v_mod, v_pow, v_addT, v_addL, v_mulL, v_lt, v_le, v_gt, v_ge, v_eqI, v_neI, v_eqB, v_neB, v_ixT, v_ixL, v_slT, v_slL, v_slS, v_lenT, v_lenL, v_int, v_abs, v_max2, v_min2, v_gcd, v_tupT, v_tupL, v_lstT, v_lstL, v_tg1, v_tg2, v_tg3, t_bl, t_int, t_non, s_tup, s_lst, s_scr, isNon, CV.d, isTys, isTy, List.getElem?_cons_zero, List.getElem?_cons_succ, List.set_cons_zero, List.set_cons_succ, put_same, put_put, wipeE, tgSlots, pureSC, List.length_map, List.length_cons, List.length_nil, Bool.or_false, Bool.or_true, Bool.not_true, Bool.not_false, p_ix, p_six, p_len, p_tup, Ext_r, reduceCtorEq, decide_true, decide_false, decide_eq_true_eq, or_true, true_or, or_false, false_or, and_self, true_and, and_true, false_and, and_false, Bool.false_eq_true, Bool.true_eq_false, false_implies, true_implies, implies_true, not_true_eq_false, not_false_eq_true, startE, List.map_cons, List.map_nil, Nat.reduceAdd, Nat.reduceSub, Nat.reduceMul, List.replicate_succ, List.replicate_zero, List.cons_append, List.nil_append, decide_eq_false_iff_not, List.getElem?_map, Option.map_some, p_isL, p_appX, Bool.false_bne, Bool.true_bne, beq_self_eq_true]
    refine call_trim (xs.map (n * ·)) (by rw [List.length_map]; omega) ⟨rfl, .refl⟩ _ ?_
    unfold rs li; rw [List.map_map]; rfl
theorem trim_map {c : Int} (h : c ≠ 0) (xs : List Int) : trim (xs.map (c * ·)) = (trim xs).map (c * ·) := by
  unfold trim
  rw [← List.map_reverse, List.dropWhile_map, ← List.map_reverse]
  congr 3
  funext x
  rw [Bool.eq_iff_iff]
  simp [Int.mul_eq_zero, h]
def Trd (xs : List Int) : Prop := trim xs = xs
theorem trim_trd (xs : List Int) : Trd (trim xs) := by
  unfold Trd trim
  rw [List.reverse_reverse]
  congr 1
  generalize xs.reverse = ys
  induction ys with
  | nil => rfl
  | cons a r ih =>
    by_cases h : a = 0
    · simp [h, ih]
    · simp [h]
def sp_taken : DSp := pf 2 (fun a : List Int × List Int => [tp a.1, tp a.2]) (fun a => a.1.length ≤ 500 ∧ a.2.length ≤ 500 ∧ (∀ x ∈ a.2, Bit 1000 x) ∧ Trd a.2) (fun a => tp (subF (max a.1.length a.2.length) a.1 a.2))
theorem b_poly_taken : BodyOk [sp_added, sp_scaled] [] 2 ir_poly_taken sp_taken := by
  refine body_pf (fun a M _ => cl_tp) fun ⟨xs, ys⟩ M h _ => ?_
  obtain ⟨h1, h2, h3, h4⟩ := h
  dsimp only at h1 h2 h3 h4
  unfold ir_poly_taken
  try simp only [↓x_var, ↓x_cst, ↓x_glob, ↓x_tup, ↓x_lst, ↓x_bin, ↓x_neg, ↓x_not, ↓x_and, ↓x_or, ↓x_cmp, ↓x_isN, ↓x_ite, ↓x_ix, ↓x_sl, ↓x_call, ↓x_call0, ↓x_blt, ↓x_isi, ↓x_lc, ↓x_nil, ↓x_cons, ↓x_and1, ↓x_and2, ↓x_or1, ↓x_or2, ↓x_ioN, ↓x_ioS, ↓x_seq, ↓x_rng1, ↓x_rng2, ↓x_pop, ↓x_disp, ↓x_rev, revX_tup, x_end, ↓x_snil, ↓x_scons, ↓x_set, ↓x_par, ↓x_par3, ↓x_unp, ↓x_six, ↓x_exp, ↓x_app, ↓x_ret, ↓x_retN, ↓x_pass, ↓x_brk, ↓x_cont, ↓x_never, ↓x_if, ↓x_for, ↓x_while, refX_ref, v_get, v_getO, v_getI, v_lst, v_ift, v_iff, v_ifn, v_ifd, v_ife, v_if0, v_ifb, v_newF, v_newT, v_tup, v_add, v_sub, v_mul, v_fdiv, v_mod, v_pow, v_addT, v_addL, v_mulL, v_lt, v_le, v_gt, v_ge, v_eqI, v_neI, v_eqB, v_neB, v_ixT, v_ixL, v_slT, v_slL, v_slS, v_lenT, v_lenL, v_int, v_abs, v_max2, v_min2, v_gcd, v_tupT, v_tupL, v_lstT, v_lstL, v_tg1, v_tg2, v_tg3, t_bl, t_int, t_non, s_tup, s_lst, s_scr, isNon, CV.d, isTys, isTy, List.getElem?_cons_zero, List.getElem?_cons_succ, List.set_cons_zero, List.set_cons_succ, put_same, put_put, wipeE, tgSlots, pureSC, List.length_map, List.length_cons, List.length_nil, Bool.or_false, Bool.or_true, Bool.not_true, Bool.not_false, p_ix, p_six, p_len, p_tup, Ext_r, reduceCtorEq, decide_true, decide_false, decide_eq_true_eq, or_true, true_or, or_false, false_or, and_self, true_and, and_true, false_and, and_false, Bool.false_eq_true, Bool.true_eq_false, false_implies, true_implies, implies_true, not_true_eq_false, not_false_eq_true, startE, List.map_cons, List.map_nil, Nat.reduceAdd, Nat.reduceSub, Nat.reduceMul, List.replicate_succ, List.replicate_zero, List.cons_append, List.nil_append, decide_eq_false_iff_not, List.getElem?_map, Option.map_some, p_isL, p_appX, Bool.false_bne, Bool.true_bne, beq_self_eq_true]
  refine call_pf (ys, -1) rfl ⟨h2, h3, Bit.up (k := 1) (by show (-1 : Int).natAbs < 2 ^ 1; decide) (by decide)⟩ ?_
  try simp only [↓x_var, ↓x_cst, ↓x_glob, ↓x_tup, ↓x_lst, ↓x_bin, ↓x_neg, ↓x_not, ↓x_and, ↓x_or, ↓x_cmp, ↓x_isN, ↓x_ite, ↓x_ix, ↓x_sl, ↓x_call, ↓x_call0, ↓x_blt, ↓x_isi, ↓x_lc, ↓x_nil, ↓x_cons, ↓x_and1, ↓x_and2, ↓x_or1, ↓x_or2, ↓x_ioN, ↓x_ioS, ↓x_seq, ↓x_rng1, ↓x_rng2, ↓x_pop, ↓x_disp, ↓x_rev, revX_tup, x_end, ↓x_snil, ↓x_scons, ↓x_set, ↓x_par, ↓x_par3, ↓x_unp, ↓x_six, ↓x_exp, ↓x_app, ↓x_ret, ↓x_retN, ↓x_pass, ↓x_brk, ↓x_cont, ↓x_never, ↓x_if, ↓x_for, ↓x_while, refX_ref, v_get, v_getO, v_getI, v_lst, v_ift, v_iff, v_ifn, v_ifd, v_ife, v_if0, v_ifb, v_newF, v_newT, v_tup, v_add, v_sub, v_mul, v_fdiv, v_mod, v_pow, v_addT, v_addL, v_mulL, v_lt, v_le, v_gt, v_ge, v_eqI, v_neI, v_eqB, v_neB, v_ixT, v_ixL, v_slT, v_slL, v_slS, v_lenT, v_lenL, v_int, v_abs, v_max2, v_min2, v_gcd, v_tupT, v_tupL, v_lstT, v_lstL, v_tg1, v_tg2, v_tg3, t_bl, t_int, t_non, s_tup, s_lst, s_scr, isNon, CV.d, isTys, isTy, List.getElem?_cons_zero, List.getElem?_cons_succ, List.set_cons_zero, List.set_cons_succ, put_same, put_put, wipeE, tgSlots, pureSC, List.length_map, List.length_cons, List.length_nil, Bool.or_false, Bool.or_true, Bool.not_true, Bool.not_false, p_ix, p_six, p_len, p_tup, Ext_r, reduceCtorEq, decide_true, decide_false, decide_eq_true_eq, or_true, true_or, or_false, false_or, and_self, true_and, and_true, false_and, and_false, Bool.false_eq_true, Bool.true_eq_false, false_implies, true_implies, implies_true, not_true_eq_false, not_false_eq_true, startE, List.map_cons, List.map_nil, Nat.reduceAdd, Nat.reduceSub, Nat.reduceMul, List.replicate_succ, List.replicate_zero, List.cons_append, List.nil_append, decide_eq_false_iff_not, List.getElem?_map, Option.map_some, p_isL, p_appX, Bool.false_bne, Bool.true_bne, beq_self_eq_true]
  have e : trim (ys.map (-1 * ·)) = ys.map (-1 * ·) := by rw [trim_map (by decide), h4]
  refine call_pf (xs, ys.map (-1 * ·)) rfl ⟨h1, by rw [List.length_map]; exact h2⟩ ⟨?_, .refl⟩ (by rw [e])
  show tp (addF (max xs.length (ys.map (-1 * ·)).length) xs (ys.map (-1 * ·))) = _
  rw [List.length_map]
  unfold addF subF
  congr 3
  funext k
  rw [List.getD_eq_getElem?_getD (l := ys.map _), List.getElem?_map, List.getD_eq_getElem?_getD (l := ys)]
  cases ys[k]? with
  | none => show _ + 0 = _ - 0; omega
  | some y => show _ + -1 * y = _ - y; omega
def sp_slope : DSp := pf 1 (fun a : List Int => [tp a]) (fun a => a.length ≤ 500 ∧ (∀ x ∈ a, Bit 1000 x)) (fun a => tp (trim ((List.range (a.length - 1)).map fun k => ((k + 1 : Nat) : Int) * a.getD (k + 1) 0)))
theorem b_slope : BodyOk [sp_trim] [] 2 ir_slope sp_slope := by
  refine body_pf (fun a M _ => cl_tp) fun xs M h _ => ?_
  obtain ⟨h1, h2⟩ := h
  unfold ir_slope
  try simp only [↓x_var, ↓x_cst, ↓x_glob, ↓x_tup, ↓x_lst, ↓x_bin, ↓x_neg, ↓x_not, ↓x_and, ↓x_or, ↓x_cmp, ↓x_isN, ↓x_ite, ↓x_ix, ↓x_sl, ↓x_call, ↓x_call0, ↓x_blt, ↓x_isi, ↓x_lc, ↓x_nil, ↓x_cons, ↓x_and1, ↓x_and2, ↓x_or1, ↓x_or2, ↓x_ioN, ↓x_ioS, ↓x_seq, ↓x_rng1, ↓x_rng2, ↓x_pop, ↓x_disp, ↓x_rev, revX_tup, x_end, ↓x_snil, ↓x_scons, ↓x_set, ↓x_par, ↓x_par3, ↓x_unp, ↓x_six, ↓x_exp, ↓x_app, ↓x_ret, ↓x_retN, ↓x_pass, ↓x_brk, ↓x_cont, ↓x_never, ↓x_if, ↓x_for, ↓x_while, refX_ref, v_get, v_getO, v_getI, v_lst, v_ift, v_iff, v_ifn, v_ifd, v_ife, v_if0, v_ifb, v_newF, v_newT, v_tup, v_add, v_sub, v_mul, v_fdiv, v_mod, v_pow, v_addT, v_addL, v_mulL, v_lt, v_le, v_gt, v_ge, v_eqI, v_neI, v_eqB, v_neB, v_ixT, v_ixL, v_slT, v_slL, v_slS, v_lenT, v_lenL, v_int, v_abs, v_max2, v_min2, v_gcd, v_tupT, v_tupL, v_lstT, v_lstL, v_tg1, v_tg2, v_tg3, t_bl, t_int, t_non, s_tup, s_lst, s_scr, isNon, CV.d, isTys, isTy, List.getElem?_cons_zero, List.getElem?_cons_succ, List.set_cons_zero, List.set_cons_succ, put_same, put_put, wipeE, tgSlots, pureSC, List.length_map, List.length_cons, List.length_nil, Bool.or_false, Bool.or_true, Bool.not_true, Bool.not_false, p_ix, p_six, p_len, p_tup, Ext_r, reduceCtorEq, decide_true, decide_false, decide_eq_true_eq, or_true, true_or, or_false, false_or, and_self, true_and, and_true, false_and, and_false, Bool.false_eq_true, Bool.true_eq_false, false_implies, true_implies, implies_true, not_true_eq_false, not_false_eq_true, startE, List.map_cons, List.map_nil, Nat.reduceAdd, Nat.reduceSub, Nat.reduceMul, List.replicate_succ, List.replicate_zero, List.cons_append, List.nil_append, decide_eq_false_iff_not, List.getElem?_map, Option.map_some, p_isL, p_appX, Bool.false_bne, Bool.true_bne, beq_self_eq_true]
  refine ⟨by omega, ?_⟩
  have e : ((xs.length : Int) - 1).toNat = xs.length - 1 := by omega
  refine lc_pure (fun k : Nat => .int (1 + (k : Int))) (fun k => .int (((k + 1 : Nat) : Int) * xs.getD (k + 1) 0)) (List.range (xs.length - 1)) (by rw [← e]) (by rw [List.length_range]; unfold sizeLine; omega) trivial (fun k hk => ?_) ?_
  · have hk' := List.mem_range.mp hk
    have ex : xs[k + 1]? = some (xs[k + 1]'(by omega)) := List.getElem?_eq_getElem (by omega)
    have ei : 1 + (k : Int) = ((k + 1 : Nat) : Int) := by omega
    try simp only [↓x_var, ↓x_cst, ↓x_glob, ↓x_tup, ↓x_lst, ↓x_bin, ↓x_neg, ↓x_not, ↓x_and, ↓x_or, ↓x_cmp, ↓x_isN, ↓x_ite, ↓x_ix, ↓x_sl, ↓x_call, ↓x_call0, ↓x_blt, ↓x_isi, ↓x_lc, ↓x_nil, ↓x_cons, ↓x_and1, ↓x_and2, ↓x_or1, ↓x_or2, ↓x_ioN, ↓x_ioS, ↓x_seq, ↓x_rng1, ↓x_rng2, ↓x_pop, ↓x_disp, ↓x_rev, revX_tup, x_end, ↓x_snil, ↓x_scons, ↓x_set, ↓x_par, ↓x_par3, ↓x_unp, ↓x_six, ↓x_exp, ↓x_app, ↓x_ret, ↓x_retN, ↓x_pass, ↓x_brk, ↓x_cont, ↓x_never, ↓x_if, ↓x_for, ↓x_while, refX_ref, v_get, v_getO, v_getI, v_lst, v_ift, v_iff, v_ifn, v_ifd, v_ife, v_if0, v_ifb, v_newF, v_newT, v_tup, v_add, v_sub, v_mul, v_fdiv, v_mod, v_pow, v_addT, v_addL, v_mulL, v_lt, v_le, v_gt, v_ge, v_eqI, v_neI, v_eqB, v_neB, v_ixT, v_ixL, v_slT, v_slL, v_slS, v_lenT, v_lenL, v_int, v_abs, v_max2, v_min2, v_gcd, v_tupT, v_tupL, v_lstT, v_lstL, v_tg1, v_tg2, v_tg3, t_bl, t_int, t_non, s_tup, s_lst, s_scr, isNon, CV.d, isTys, isTy, List.getElem?_cons_zero, List.getElem?_cons_succ, List.set_cons_zero, List.set_cons_succ, put_same, put_put, wipeE, tgSlots, pureSC, List.length_map, List.length_cons, List.length_nil, Bool.or_false, Bool.or_true, Bool.not_true, Bool.not_false, p_ix, p_six, p_len, p_tup, Ext_r, reduceCtorEq, decide_true, decide_false, decide_eq_true_eq, or_true, true_or, or_false, false_or, and_self, true_and, and_true, false_and, and_false, Bool.false_eq_true, Bool.true_eq_false, false_implies, true_implies, implies_true, not_true_eq_false, not_false_eq_true, startE, List.map_cons, List.map_nil, Nat.reduceAdd, Nat.reduceSub, Nat.reduceMul, List.replicate_succ, List.replicate_zero, List.cons_append, List.nil_append, decide_eq_false_iff_not, List.getElem?_map, Option.map_some, p_isL, p_appX, Bool.false_bne, Bool.true_bne, beq_self_eq_true,  ei, atI_nat, ex, List.getD_eq_getElem?_getD, Option.getD_some]
    refine mulOk_of (a := 1000) ?_ (h2 _ (List.getElem_mem _))
    unfold Bit
    refine Nat.lt_of_lt_of_le (show _ < 2 ^ 10 from ?_) (Nat.pow_le_pow_right (by decide) (by decide))
    omega
  · try simp only [↓x_var, ↓x_cst, ↓x_glob, ↓x_tup, ↓x_lst, ↓x_bin, ↓x_neg, ↓x_not, ↓x_and, ↓x_or, ↓x_cmp, ↓x_isN, ↓x_ite, ↓x_ix, ↓x_sl, ↓x_call, ↓x_call0, ↓x_blt, ↓x_isi, ↓x_lc, ↓x_nil, ↓x_cons, ↓x_and1, ↓x_and2, ↓x_or1, ↓x_or2, ↓x_ioN, ↓x_ioS, ↓x_seq, ↓x_rng1, ↓x_rng2, ↓x_pop, ↓x_disp, ↓x_rev, revX_tup, x_end, ↓x_snil, ↓x_scons, ↓x_set, ↓x_par, ↓x_par3, ↓x_unp, ↓x_six, ↓x_exp, ↓x_app, ↓x_ret, ↓x_retN, ↓x_pass, ↓x_brk, ↓x_cont, ↓x_never, ↓x_if, ↓x_for, ↓x_while, refX_ref, v_get, v_getO, v_getI, v_lst, v_ift, v_iff, v_ifn, v_ifd, v_ife, v_if0, v_ifb, v_newF, v_newT, v_tup, v_add, v_sub, v_mul, v_fdiv, v_mod, v_pow, v_addT, v_addL, v_mulL, v_lt, v_le, v_gt, v_ge, v_eqI, v_neI, v_eqB, v_neB, v_ixT, v_ixL, v_slT, v_slL, v_slS, v_lenT, v_lenL, v_int, v_abs, v_max2, v_min2, v_gcd, v_tupT, v_tupL, v_lstT, v_lstL, v_tg1, v_tg2, v_tg3, t_bl, t_int, t_non, s_tup, s_lst, s_scr, isNon, CV.d, isTys, isTy, List.getElem?_cons_zero, List.getElem?_cons_succ, List.set_cons_zero, List.set_cons_succ, put_same, put_put, wipeE, tgSlots, pureSC, List.length_map, List.length_cons, List.length_nil, Bool.or_false, Bool.or_true, Bool.not_true, Bool.not_false, p_ix, p_six, p_len, p_tup, Ext_r, reduceCtorEq, decide_true, decide_false, decide_eq_true_eq, or_true, true_or, or_false, false_or, and_self, true_and, and_true, false_and, and_false, Bool.false_eq_true, Bool.true_eq_false, false_implies, true_implies, implies_true, not_true_eq_false, not_false_eq_true, startE, List.map_cons, List.map_nil, Nat.reduceAdd, Nat.reduceSub, Nat.reduceMul, List.replicate_succ, List.replicate_zero, List.cons_append, List.nil_append, decide_eq_false_iff_not, List.getElem?_map, Option.map_some, p_isL, p_appX, Bool.false_bne, Bool.true_bne, beq_self_eq_true]
    refine call_trim ((List.range (xs.length - 1)).map fun k => ((k + 1 : Nat) : Int) * xs.getD (k + 1) 0) (by rw [List.length_map, List.length_range]; omega) ⟨rfl, .refl⟩ _ ?_
    unfold rs li; rw [List.map_map]; rfl
/-! ### content -/
def contG (xs : List Int) : Nat := xs.foldl (fun g x => Int.gcd g x) 0
def cont (xs : List Int) : Int := if 0 < xs.length ∧ xs.getLast?.getD 0 < 0 then -(contG xs : Int) else contG xs
def sp_cont : DSp := pf 1 (fun a : List Int => [tp a]) (fun _ => True) (fun a => .int (cont a))
theorem b_content : BodyOk [sp_divisor] [] 3 ir_content sp_cont := by
  refine body_pf (fun a M _ => .int _) fun xs M _ _ => ?_
  unfold ir_content
  try simp only [↓x_var, ↓x_cst, ↓x_glob, ↓x_tup, ↓x_lst, ↓x_bin, ↓x_neg, ↓x_not, ↓x_and, ↓x_or, ↓x_cmp, ↓x_isN, ↓x_ite, ↓x_ix, ↓x_sl, ↓x_call, ↓x_call0, ↓x_blt, ↓x_isi, ↓x_lc, ↓x_nil, ↓x_cons, ↓x_and1, ↓x_and2, ↓x_or1, ↓x_or2, ↓x_ioN, ↓x_ioS, ↓x_seq, ↓x_rng1, ↓x_rng2, ↓x_pop, ↓x_disp, ↓x_rev, revX_tup, x_end, ↓x_snil, ↓x_scons, ↓x_set, ↓x_par, ↓x_par3, ↓x_unp, ↓x_six, ↓x_exp, ↓x_app, ↓x_ret, ↓x_retN, ↓x_pass, ↓x_brk, ↓x_cont, ↓x_never, ↓x_if, ↓x_for, ↓x_while, refX_ref, v_get, v_getO, v_getI, v_lst, v_ift, v_iff, v_ifn, v_ifd, v_ife, v_if0, v_ifb, v_newF, v_newT, v_tup, v_add, v_sub, v_mul, v_fdiv, v_mod, v_pow, v_addT, v_addL, v_mulL, v_lt, v_le, v_gt, v_ge, v_eqI, v_neI, v_eqB, v_neB, v_ixT, v_ixL, v_slT, v_slL, v_slS, v_lenT, v_lenL, v_int, v_abs, v_max2, v_min2, v_gcd, v_tupT, v_tupL, v_lstT, v_lstL, v_tg1, v_tg2, v_tg3, t_bl, t_int, t_non, s_tup, s_lst, s_scr, isNon, CV.d, isTys, isTy, List.getElem?_cons_zero, List.getElem?_cons_succ, List.set_cons_zero, List.set_cons_succ, put_same, put_put, wipeE, tgSlots, pureSC, List.length_map, List.length_cons, List.length_nil, Bool.or_false, Bool.or_true, Bool.not_true, Bool.not_false, p_ix, p_six, p_len, p_tup, Ext_r, reduceCtorEq, decide_true, decide_false, decide_eq_true_eq, or_true, true_or, or_false, false_or, and_self, true_and, and_true, false_and, and_false, Bool.false_eq_true, Bool.true_eq_false, false_implies, true_implies, implies_true, not_true_eq_false, not_false_eq_true, startE, List.map_cons, List.map_nil, Nat.reduceAdd, Nat.reduceSub, Nat.reduceMul, List.replicate_succ, List.replicate_zero, List.cons_append, List.nil_append, decide_eq_false_iff_not, List.getElem?_map, Option.map_some, p_isL, p_appX, Bool.false_bne, Bool.true_bne, beq_self_eq_true]
  refine for_list D.int xs (fun done ρ M' => M' = M ∧ ∃ x, ρ = [some (tp xs), some (.int (contG done)), x]) rfl ⟨rfl, none, rfl⟩ ?_ ?_
  · rintro done a rest ρ M' he ⟨rfl, x, rfl⟩
    try simp only [↓x_var, ↓x_cst, ↓x_glob, ↓x_tup, ↓x_lst, ↓x_bin, ↓x_neg, ↓x_not, ↓x_and, ↓x_or, ↓x_cmp, ↓x_isN, ↓x_ite, ↓x_ix, ↓x_sl, ↓x_call, ↓x_call0, ↓x_blt, ↓x_isi, ↓x_lc, ↓x_nil, ↓x_cons, ↓x_and1, ↓x_and2, ↓x_or1, ↓x_or2, ↓x_ioN, ↓x_ioS, ↓x_seq, ↓x_rng1, ↓x_rng2, ↓x_pop, ↓x_disp, ↓x_rev, revX_tup, x_end, ↓x_snil, ↓x_scons, ↓x_set, ↓x_par, ↓x_par3, ↓x_unp, ↓x_six, ↓x_exp, ↓x_app, ↓x_ret, ↓x_retN, ↓x_pass, ↓x_brk, ↓x_cont, ↓x_never, ↓x_if, ↓x_for, ↓x_while, refX_ref, v_get, v_getO, v_getI, v_lst, v_ift, v_iff, v_ifn, v_ifd, v_ife, v_if0, v_ifb, v_newF, v_newT, v_tup, v_add, v_sub, v_mul, v_fdiv, v_mod, v_pow, v_addT, v_addL, v_mulL, v_lt, v_le, v_gt, v_ge, v_eqI, v_neI, v_eqB, v_neB, v_ixT, v_ixL, v_slT, v_slL, v_slS, v_lenT, v_lenL, v_int, v_abs, v_max2, v_min2, v_gcd, v_tupT, v_tupL, v_lstT, v_lstL, v_tg1, v_tg2, v_tg3, t_bl, t_int, t_non, s_tup, s_lst, s_scr, isNon, CV.d, isTys, isTy, List.getElem?_cons_zero, List.getElem?_cons_succ, List.set_cons_zero, List.set_cons_succ, put_same, put_put, wipeE, tgSlots, pureSC, List.length_map, List.length_cons, List.length_nil, Bool.or_false, Bool.or_true, Bool.not_true, Bool.not_false, p_ix, p_six, p_len, p_tup, Ext_r, reduceCtorEq, decide_true, decide_false, decide_eq_true_eq, or_true, true_or, or_false, false_or, and_self, true_and, and_true, false_and, and_false, Bool.false_eq_true, Bool.true_eq_false, false_implies, true_implies, implies_true, not_true_eq_false, not_false_eq_true, startE, List.map_cons, List.map_nil, Nat.reduceAdd, Nat.reduceSub, Nat.reduceMul, List.replicate_succ, List.replicate_zero, List.cons_append, List.nil_append, decide_eq_false_iff_not, List.getElem?_map, Option.map_some, p_isL, p_appX, Bool.false_bne, Bool.true_bne, beq_self_eq_true]
    refine call_pf ((contG done : Int), a) rfl trivial ?_
    try simp only [↓x_var, ↓x_cst, ↓x_glob, ↓x_tup, ↓x_lst, ↓x_bin, ↓x_neg, ↓x_not, ↓x_and, ↓x_or, ↓x_cmp, ↓x_isN, ↓x_ite, ↓x_ix, ↓x_sl, ↓x_call, ↓x_call0, ↓x_blt, ↓x_isi, ↓x_lc, ↓x_nil, ↓x_cons, ↓x_and1, ↓x_and2, ↓x_or1, ↓x_or2, ↓x_ioN, ↓x_ioS, ↓x_seq, ↓x_rng1, ↓x_rng2, ↓x_pop, ↓x_disp, ↓x_rev, revX_tup, x_end, ↓x_snil, ↓x_scons, ↓x_set, ↓x_par, ↓x_par3, ↓x_unp, ↓x_six, ↓x_exp, ↓x_app, ↓x_ret, ↓x_retN, ↓x_pass, ↓x_brk, ↓x_cont, ↓x_never, ↓x_if, ↓x_for, ↓x_while, refX_ref, v_get, v_getO, v_getI, v_lst, v_ift, v_iff, v_ifn, v_ifd, v_ife, v_if0, v_ifb, v_newF, v_newT, v_tup, v_add, v_sub, v_mul, v_fdiv, v_mod, v_pow, v_addT, v_addL, v_mulL, v_lt, v_le, v_gt, v_ge, v_eqI, v_neI, v_eqB, v_neB, v_ixT, v_ixL, v_slT, v_slL, v_slS, v_lenT, v_lenL, v_int, v_abs, v_max2, v_min2, v_gcd, v_tupT, v_tupL, v_lstT, v_lstL, v_tg1, v_tg2, v_tg3, t_bl, t_int, t_non, s_tup, s_lst, s_scr, isNon, CV.d, isTys, isTy, List.getElem?_cons_zero, List.getElem?_cons_succ, List.set_cons_zero, List.set_cons_succ, put_same, put_put, wipeE, tgSlots, pureSC, List.length_map, List.length_cons, List.length_nil, Bool.or_false, Bool.or_true, Bool.not_true, Bool.not_false, p_ix, p_six, p_len, p_tup, Ext_r, reduceCtorEq, decide_true, decide_false, decide_eq_true_eq, or_true, true_or, or_false, false_or, and_self, true_and, and_true, false_and, and_false, Bool.false_eq_true, Bool.true_eq_false, false_implies, true_implies, implies_true, not_true_eq_false, not_false_eq_true, startE, List.map_cons, List.map_nil, Nat.reduceAdd, Nat.reduceSub, Nat.reduceMul, List.replicate_succ, List.replicate_zero, List.cons_append, List.nil_append, decide_eq_false_iff_not, List.getElem?_map, Option.map_some, p_isL, p_appX, Bool.false_bne, Bool.true_bne, beq_self_eq_true]
    refine ⟨some (.int a), ?_⟩
    unfold contG
    rw [List.foldl_append]
    rfl
  · rintro ρ M' ⟨rfl, x, rfl⟩
    try simp only [↓x_var, ↓x_cst, ↓x_glob, ↓x_tup, ↓x_lst, ↓x_bin, ↓x_neg, ↓x_not, ↓x_and, ↓x_or, ↓x_cmp, ↓x_isN, ↓x_ite, ↓x_ix, ↓x_sl, ↓x_call, ↓x_call0, ↓x_blt, ↓x_isi, ↓x_lc, ↓x_nil, ↓x_cons, ↓x_and1, ↓x_and2, ↓x_or1, ↓x_or2, ↓x_ioN, ↓x_ioS, ↓x_seq, ↓x_rng1, ↓x_rng2, ↓x_pop, ↓x_disp, ↓x_rev, revX_tup, x_end, ↓x_snil, ↓x_scons, ↓x_set, ↓x_par, ↓x_par3, ↓x_unp, ↓x_six, ↓x_exp, ↓x_app, ↓x_ret, ↓x_retN, ↓x_pass, ↓x_brk, ↓x_cont, ↓x_never, ↓x_if, ↓x_for, ↓x_while, refX_ref, v_get, v_getO, v_getI, v_lst, v_ift, v_iff, v_ifn, v_ifd, v_ife, v_if0, v_ifb, v_newF, v_newT, v_tup, v_add, v_sub, v_mul, v_fdiv, v_mod, v_pow, v_addT, v_addL, v_mulL, v_lt, v_le, v_gt, v_ge, v_eqI, v_neI, v_eqB, v_neB, v_ixT, v_ixL, v_slT, v_slL, v_slS, v_lenT, v_lenL, v_int, v_abs, v_max2, v_min2, v_gcd, v_tupT, v_tupL, v_lstT, v_lstL, v_tg1, v_tg2, v_tg3, t_bl, t_int, t_non, s_tup, s_lst, s_scr, isNon, CV.d, isTys, isTy, List.getElem?_cons_zero, List.getElem?_cons_succ, List.set_cons_zero, List.set_cons_succ, put_same, put_put, wipeE, tgSlots, pureSC, List.length_map, List.length_cons, List.length_nil, Bool.or_false, Bool.or_true, Bool.not_true, Bool.not_false, p_ix, p_six, p_len, p_tup, Ext_r, reduceCtorEq, decide_true, decide_false, decide_eq_true_eq, or_true, true_or, or_false, false_or, and_self, true_and, and_true, false_and, and_false, Bool.false_eq_true, Bool.true_eq_false, false_implies, true_implies, implies_true, not_true_eq_false, not_false_eq_true, startE, List.map_cons, List.map_nil, Nat.reduceAdd, Nat.reduceSub, Nat.reduceMul, List.replicate_succ, List.replicate_zero, List.cons_append, List.nil_append, decide_eq_false_iff_not, List.getElem?_map, Option.map_some, p_isL, p_appX, Bool.false_bne, Bool.true_bne, beq_self_eq_true,  atI_m1]
    unfold cont
    refine ⟨fun h => ?_, fun h => ?_⟩
    · have ne : xs ≠ [] := by rintro rfl; simp at h
      rw [List.getLast?_map, List.getLast?_eq_some_getLast ne]
      try simp only [↓x_var, ↓x_cst, ↓x_glob, ↓x_tup, ↓x_lst, ↓x_bin, ↓x_neg, ↓x_not, ↓x_and, ↓x_or, ↓x_cmp, ↓x_isN, ↓x_ite, ↓x_ix, ↓x_sl, ↓x_call, ↓x_call0, ↓x_blt, ↓x_isi, ↓x_lc, ↓x_nil, ↓x_cons, ↓x_and1, ↓x_and2, ↓x_or1, ↓x_or2, ↓x_ioN, ↓x_ioS, ↓x_seq, ↓x_rng1, ↓x_rng2, ↓x_pop, ↓x_disp, ↓x_rev, revX_tup, x_end, ↓x_snil, ↓x_scons, ↓x_set, ↓x_par, ↓x_par3, ↓x_unp, ↓x_six, ↓x_exp, ↓x_app, ↓x_ret, ↓x_retN, ↓x_pass, ↓x_brk, ↓x_cont, ↓x_never, ↓x_if, ↓x_for, ↓x_while, refX_ref, v_get, v_getO, v_getI, v_lst, v_ift, v_iff, v_ifn, v_ifd, v_ife, v_if0, v_ifb, v_newF, v_newT, v_tup, v_add, v_sub, v_mul, v_fdiv, v_mod, v_pow, v_addT, v_addL, v_mulL, v_lt, v_le, v_gt, v_ge, v_eqI, v_neI, v_eqB, v_neB, v_ixT, v_ixL, v_slT, v_slL, v_slS, v_lenT, v_lenL, v_int, v_abs, v_max2, v_min2, v_gcd, v_tupT, v_tupL, v_lstT, v_lstL, v_tg1, v_tg2, v_tg3, t_bl, t_int, t_non, s_tup, s_lst, s_scr, isNon, CV.d, isTys, isTy, List.getElem?_cons_zero, List.getElem?_cons_succ, List.set_cons_zero, List.set_cons_succ, put_same, put_put, wipeE, tgSlots, pureSC, List.length_map, List.length_cons, List.length_nil, Bool.or_false, Bool.or_true, Bool.not_true, Bool.not_false, p_ix, p_six, p_len, p_tup, Ext_r, reduceCtorEq, decide_true, decide_false, decide_eq_true_eq, or_true, true_or, or_false, false_or, and_self, true_and, and_true, false_and, and_false, Bool.false_eq_true, Bool.true_eq_false, false_implies, true_implies, implies_true, not_true_eq_false, not_false_eq_true, startE, List.map_cons, List.map_nil, Nat.reduceAdd, Nat.reduceSub, Nat.reduceMul, List.replicate_succ, List.replicate_zero, List.cons_append, List.nil_append, decide_eq_false_iff_not, List.getElem?_map, Option.map_some, p_isL, p_appX, Bool.false_bne, Bool.true_bne, beq_self_eq_true]
      refine ⟨fun h2 => ?_, fun h2 => ?_⟩
      · rw [if_pos ⟨by omega, h2⟩]
      · rw [if_neg fun z => h2 z.2]
    · refine ⟨fun z => absurd z h, fun _ => ?_⟩
      rw [if_neg fun z => h (by omega)]
def sp_plain : DSp := pf 1 (fun a : List Int => [tp a]) (fun a => a.length ≤ 500 ∧ cont a ≠ 0 ∧ Bit 8000 (cont a)) (fun a => tp (a.map (·.fdiv (cont a))))
theorem b_plain_part : BodyOk [sp_cont] [] 3 ir_plain_part sp_plain := by
  refine body_pf (fun a M _ => cl_tp) fun xs M h _ => ?_
  obtain ⟨h0, h1, h2⟩ := h
  unfold ir_plain_part
  try simp only [↓x_var, ↓x_cst, ↓x_glob, ↓x_tup, ↓x_lst, ↓x_bin, ↓x_neg, ↓x_not, ↓x_and, ↓x_or, ↓x_cmp, ↓x_isN, ↓x_ite, ↓x_ix, ↓x_sl, ↓x_call, ↓x_call0, ↓x_blt, ↓x_isi, ↓x_lc, ↓x_nil, ↓x_cons, ↓x_and1, ↓x_and2, ↓x_or1, ↓x_or2, ↓x_ioN, ↓x_ioS, ↓x_seq, ↓x_rng1, ↓x_rng2, ↓x_pop, ↓x_disp, ↓x_rev, revX_tup, x_end, ↓x_snil, ↓x_scons, ↓x_set, ↓x_par, ↓x_par3, ↓x_unp, ↓x_six, ↓x_exp, ↓x_app, ↓x_ret, ↓x_retN, ↓x_pass, ↓x_brk, ↓x_cont, ↓x_never, ↓x_if, ↓x_for, ↓x_while, refX_ref, v_get, v_getO, v_getI, v_lst, v_ift, v_iff, v_ifn, v_ifd, v_ife, v_if0, v_ifb, v_newF, v_newT, v_tup, v_add, v_sub, v_mul, v_fdiv, v_mod, v_pow, v_addT, v_addL, v_mulL, v_lt, v_le, v_gt, v_ge, v_eqI, v_neI, v_eqB, v_neB, v_ixT, v_ixL, v_slT, v_slL, v_slS, v_lenT, v_lenL, v_int, v_abs, v_max2, v_min2, v_gcd, v_tupT, v_tupL, v_lstT, v_lstL, v_tg1, v_tg2, v_tg3, t_bl, t_int, t_non, s_tup, s_lst, s_scr, isNon, CV.d, isTys, isTy, List.getElem?_cons_zero, List.getElem?_cons_succ, List.set_cons_zero, List.set_cons_succ, put_same, put_put, wipeE, tgSlots, pureSC, List.length_map, List.length_cons, List.length_nil, Bool.or_false, Bool.or_true, Bool.not_true, Bool.not_false, p_ix, p_six, p_len, p_tup, Ext_r, reduceCtorEq, decide_true, decide_false, decide_eq_true_eq, or_true, true_or, or_false, false_or, and_self, true_and, and_true, false_and, and_false, Bool.false_eq_true, Bool.true_eq_false, false_implies, true_implies, implies_true, not_true_eq_false, not_false_eq_true, startE, List.map_cons, List.map_nil, Nat.reduceAdd, Nat.reduceSub, Nat.reduceMul, List.replicate_succ, List.replicate_zero, List.cons_append, List.nil_append, decide_eq_false_iff_not, List.getElem?_map, Option.map_some, p_isL, p_appX, Bool.false_bne, Bool.true_bne, beq_self_eq_true]
  refine call_pf xs rfl trivial ?_
  try simp only [↓x_var, ↓x_cst, ↓x_glob, ↓x_tup, ↓x_lst, ↓x_bin, ↓x_neg, ↓x_not, ↓x_and, ↓x_or, ↓x_cmp, ↓x_isN, ↓x_ite, ↓x_ix, ↓x_sl, ↓x_call, ↓x_call0, ↓x_blt, ↓x_isi, ↓x_lc, ↓x_nil, ↓x_cons, ↓x_and1, ↓x_and2, ↓x_or1, ↓x_or2, ↓x_ioN, ↓x_ioS, ↓x_seq, ↓x_rng1, ↓x_rng2, ↓x_pop, ↓x_disp, ↓x_rev, revX_tup, x_end, ↓x_snil, ↓x_scons, ↓x_set, ↓x_par, ↓x_par3, ↓x_unp, ↓x_six, ↓x_exp, ↓x_app, ↓x_ret, ↓x_retN, ↓x_pass, ↓x_brk, ↓x_cont, ↓x_never, ↓x_if, ↓x_for, ↓x_while, refX_ref, v_get, v_getO, v_getI, v_lst, v_ift, v_iff, v_ifn, v_ifd, v_ife, v_if0, v_ifb, v_newF, v_newT, v_tup, v_add, v_sub, v_mul, v_fdiv, v_mod, v_pow, v_addT, v_addL, v_mulL, v_lt, v_le, v_gt, v_ge, v_eqI, v_neI, v_eqB, v_neB, v_ixT, v_ixL, v_slT, v_slL, v_slS, v_lenT, v_lenL, v_int, v_abs, v_max2, v_min2, v_gcd, v_tupT, v_tupL, v_lstT, v_lstL, v_tg1, v_tg2, v_tg3, t_bl, t_int, t_non, s_tup, s_lst, s_scr, isNon, CV.d, isTys, isTy, List.getElem?_cons_zero, List.getElem?_cons_succ, List.set_cons_zero, List.set_cons_succ, put_same, put_put, wipeE, tgSlots, pureSC, List.length_map, List.length_cons, List.length_nil, Bool.or_false, Bool.or_true, Bool.not_true, Bool.not_false, p_ix, p_six, p_len, p_tup, Ext_r, reduceCtorEq, decide_true, decide_false, decide_eq_true_eq, or_true, true_or, or_false, false_or, and_self, true_and, and_true, false_and, and_false, Bool.false_eq_true, Bool.true_eq_false, false_implies, true_implies, implies_true, not_true_eq_false, not_false_eq_true, startE, List.map_cons, List.map_nil, Nat.reduceAdd, Nat.reduceSub, Nat.reduceMul, List.replicate_succ, List.replicate_zero, List.cons_append, List.nil_append, decide_eq_false_iff_not, List.getElem?_map, Option.map_some, p_isL, p_appX, Bool.false_bne, Bool.true_bne, beq_self_eq_true]
  refine lc_pure D.int (fun x => .int (x.fdiv (cont xs))) xs rfl (by unfold sizeLine; omega) trivial (fun x hx => ?_) ?_
  · try simp only [↓x_var, ↓x_cst, ↓x_glob, ↓x_tup, ↓x_lst, ↓x_bin, ↓x_neg, ↓x_not, ↓x_and, ↓x_or, ↓x_cmp, ↓x_isN, ↓x_ite, ↓x_ix, ↓x_sl, ↓x_call, ↓x_call0, ↓x_blt, ↓x_isi, ↓x_lc, ↓x_nil, ↓x_cons, ↓x_and1, ↓x_and2, ↓x_or1, ↓x_or2, ↓x_ioN, ↓x_ioS, ↓x_seq, ↓x_rng1, ↓x_rng2, ↓x_pop, ↓x_disp, ↓x_rev, revX_tup, x_end, ↓x_snil, ↓x_scons, ↓x_set, ↓x_par, ↓x_par3, ↓x_unp, ↓x_six, ↓x_exp, ↓x_app, ↓x_ret, ↓x_retN, ↓x_pass, ↓x_brk, ↓x_cont, ↓x_never, ↓x_if, ↓x_for, ↓x_while, refX_ref, v_get, v_getO, v_getI, v_lst, v_ift, v_iff, v_ifn, v_ifd, v_ife, v_if0, v_ifb, v_newF, v_newT, v_tup, v_add, v_sub, v_mul, v_fdiv, v_mod, v_pow, v_addT, v_addL, v_mulL, v_lt, v_le, v_gt, v_ge, v_eqI, v_neI, v_eqB, v_neB, v_ixT, v_ixL, v_slT, v_slL, v_slS, v_lenT, v_lenL, v_int, v_abs, v_max2, v_min2, v_gcd, v_tupT, v_tupL, v_lstT, v_lstL, v_tg1, v_tg2, v_tg3, t_bl, t_int, t_non, s_tup, s_lst, s_scr, isNon, CV.d, isTys, isTy, List.getElem?_cons_zero, List.getElem?_cons_succ, List.set_cons_zero, List.set_cons_succ, put_same, put_put, wipeE, tgSlots, pureSC, List.length_map, List.length_cons, List.length_nil, Bool.or_false, Bool.or_true, Bool.not_true, Bool.not_false, p_ix, p_six, p_len, p_tup, Ext_r, reduceCtorEq, decide_true, decide_false, decide_eq_true_eq, or_true, true_or, or_false, false_or, and_self, true_and, and_true, false_and, and_false, Bool.false_eq_true, Bool.true_eq_false, false_implies, true_implies, implies_true, not_true_eq_false, not_false_eq_true, startE, List.map_cons, List.map_nil, Nat.reduceAdd, Nat.reduceSub, Nat.reduceMul, List.replicate_succ, List.replicate_zero, List.cons_append, List.nil_append, decide_eq_false_iff_not, List.getElem?_map, Option.map_some, p_isL, p_appX, Bool.false_bne, Bool.true_bne, beq_self_eq_true]
    exact divOk_of h1 h2
  · try simp only [↓x_var, ↓x_cst, ↓x_glob, ↓x_tup, ↓x_lst, ↓x_bin, ↓x_neg, ↓x_not, ↓x_and, ↓x_or, ↓x_cmp, ↓x_isN, ↓x_ite, ↓x_ix, ↓x_sl, ↓x_call, ↓x_call0, ↓x_blt, ↓x_isi, ↓x_lc, ↓x_nil, ↓x_cons, ↓x_and1, ↓x_and2, ↓x_or1, ↓x_or2, ↓x_ioN, ↓x_ioS, ↓x_seq, ↓x_rng1, ↓x_rng2, ↓x_pop, ↓x_disp, ↓x_rev, revX_tup, x_end, ↓x_snil, ↓x_scons, ↓x_set, ↓x_par, ↓x_par3, ↓x_unp, ↓x_six, ↓x_exp, ↓x_app, ↓x_ret, ↓x_retN, ↓x_pass, ↓x_brk, ↓x_cont, ↓x_never, ↓x_if, ↓x_for, ↓x_while, refX_ref, v_get, v_getO, v_getI, v_lst, v_ift, v_iff, v_ifn, v_ifd, v_ife, v_if0, v_ifb, v_newF, v_newT, v_tup, v_add, v_sub, v_mul, v_fdiv, v_mod, v_pow, v_addT, v_addL, v_mulL, v_lt, v_le, v_gt, v_ge, v_eqI, v_neI, v_eqB, v_neB, v_ixT, v_ixL, v_slT, v_slL, v_slS, v_lenT, v_lenL, v_int, v_abs, v_max2, v_min2, v_gcd, v_tupT, v_tupL, v_lstT, v_lstL, v_tg1, v_tg2, v_tg3, t_bl, t_int, t_non, s_tup, s_lst, s_scr, isNon, CV.d, isTys, isTy, List.getElem?_cons_zero, List.getElem?_cons_succ, List.set_cons_zero, List.set_cons_succ, put_same, put_put, wipeE, tgSlots, pureSC, List.length_map, List.length_cons, List.length_nil, Bool.or_false, Bool.or_true, Bool.not_true, Bool.not_false, p_ix, p_six, p_len, p_tup, Ext_r, reduceCtorEq, decide_true, decide_false, decide_eq_true_eq, or_true, true_or, or_false, false_or, and_self, true_and, and_true, false_and, and_false, Bool.false_eq_true, Bool.true_eq_false, false_implies, true_implies, implies_true, not_true_eq_false, not_false_eq_true, startE, List.map_cons, List.map_nil, Nat.reduceAdd, Nat.reduceSub, Nat.reduceMul, List.replicate_succ, List.replicate_zero, List.cons_append, List.nil_append, decide_eq_false_iff_not, List.getElem?_map, Option.map_some, p_isL, p_appX, Bool.false_bne, Bool.true_bne, beq_self_eq_true]
    unfold tp; rw [List.map_map]; rfl
end DL
set_option Elab.async false
set_option linter.all false
set_option maxRecDepth 100000
set_option maxHeartbeats 4000000
set_option exponentiation.threshold 100000
namespace DL
open PySem PySem.Spec PyProof.Rows L2
instance {k : Nat} {i : Int} : Decidable (Bit k i) := inferInstanceAs (Decidable (i.natAbs < 2 ^ k))
/-! ### products -/
theorem foldl_inv {α β : Type} (P : β → Prop) {g : β → α → β} : ∀ (l : List α) {f : β}, P f → (∀ f a, a ∈ l → P f → P (g f a)) → P (l.foldl g f)
  | [], f, h, _ => h
  | a :: l, f, h, s => foldl_inv P l (s f a (List.mem_cons_self ..) h) fun f b m => s f b (List.mem_cons_of_mem _ m)
theorem foldl_cnt {α β : Type} (P : Nat → β → Prop) (c : Nat) {g : β → α → β} (s : ∀ t f a, P t f → P (t + c) (g f a)) : ∀ (l : List α) {t : Nat} {f : β}, P t f → P (t + c * l.length) (l.foldl g f)
  | [], t, f, h => h
  | a :: l, t, f, h => by
    have := foldl_cnt P c s l (s t f a h)
    rw [List.length_cons, Nat.mul_succ, Nat.add_comm (c * l.length) c, ← Nat.add_assoc]
    exact this
def prodStep (xs ys : List Int) (k : Nat) (f : List Int) (j : Nat) : List Int := f.set (k + j) (f.getD (k + j) 0 + xs.getD k 0 * ys.getD j 0)
def prodRow (xs ys : List Int) (f : List Int) (k : Nat) : List Int := (List.range ys.length).foldl (prodStep xs ys k) f
def prodF (xs ys : List Int) : List Int := (List.range xs.length).foldl (prodRow xs ys) (List.replicate (xs.length + ys.length) 0)
theorem step_len {xs ys f : List Int} {k j : Nat} : (prodStep xs ys k f j).length = f.length := by unfold prodStep; rw [List.length_set]
theorem steps_len {xs ys f : List Int} {k : Nat} (l : List Nat) : (l.foldl (prodStep xs ys k) f).length = f.length :=
  foldl_inv (fun g : List Int => g.length = f.length) l rfl fun g a _ h => step_len.trans h
theorem row_len {xs ys f : List Int} {k : Nat} : (prodRow xs ys f k).length = f.length := steps_len _
theorem rows_len {xs ys f : List Int} (l : List Nat) : (l.foldl (prodRow xs ys) f).length = f.length :=
  foldl_inv (fun g : List Int => g.length = f.length) l rfl fun g a _ h => row_len.trans h
theorem prod_len {xs ys : List Int} : (prodF xs ys).length = xs.length + ys.length := by
  unfold prodF; rw [rows_len, List.length_replicate]
theorem Bit0 {a : Nat} : Bit a 0 := by show 0 < 2 ^ a; exact Nat.two_pow_pos a
theorem getD_bit {xs : List Int} {a k : Nat} (h : ∀ x ∈ xs, Bit a x) : Bit a (xs.getD k 0) := by
  rw [List.getD_eq_getElem?_getD]
  cases e : xs[k]? with
  | none => exact Bit0
  | some x => exact h x (List.mem_of_getElem? e)
theorem prod_bit {xs ys : List Int} {a b : Nat} (hx : ∀ x ∈ xs, Bit a x) (hy : ∀ y ∈ ys, Bit b y) (lx : xs.length ≤ 64) (ly : ys.length ≤ 64) : ∀ z ∈ prodF xs ys, Bit (a + b + 13) z := by
  have s1 : ∀ k t f j, (∀ z ∈ f, Int.natAbs z ≤ t * 2 ^ (a + b)) → ∀ z ∈ prodStep xs ys k f j, Int.natAbs z ≤ (t + 1) * 2 ^ (a + b) := by
    intro k t f j h z hz
    have up : t * 2 ^ (a + b) ≤ (t + 1) * 2 ^ (a + b) := Nat.mul_le_mul_right _ (Nat.le_succ t)
    unfold prodStep at hz
    rcases List.mem_or_eq_of_mem_set hz with m | rfl
    · exact Nat.le_trans (h z m) up
    · have h1 : (f.getD (k + j) 0).natAbs ≤ t * 2 ^ (a + b) := by
        rw [List.getD_eq_getElem?_getD]
        cases e : f[k + j]? with
        | none => exact Nat.zero_le _
        | some x => exact h x (List.mem_of_getElem? e)
      have h2 : (xs.getD k 0 * ys.getD j 0).natAbs < 2 ^ (a + b) := (getD_bit hx).mul (getD_bit hy)
      have h3 := Int.natAbs_add_le (f.getD (k + j) 0) (xs.getD k 0 * ys.getD j 0)
      rw [Nat.add_mul, Nat.one_mul]
      omega
  have s2 : ∀ t f k, (∀ z ∈ f, Int.natAbs z ≤ t * 2 ^ (a + b)) → ∀ z ∈ prodRow xs ys f k, Int.natAbs z ≤ (t + ys.length) * 2 ^ (a + b) := by
    intro t f k h
    have := foldl_cnt (fun t (f : List Int) => ∀ z ∈ f, Int.natAbs z ≤ t * 2 ^ (a + b)) 1 (s1 k) (List.range ys.length) h
    rwa [List.length_range, Nat.one_mul] at this
  have s3 := foldl_cnt (fun t (f : List Int) => ∀ z ∈ f, Int.natAbs z ≤ t * 2 ^ (a + b)) ys.length s2 (List.range xs.length) (t := 0) (f := List.replicate (xs.length + ys.length) 0) (by
    intro z hz
    rw [List.eq_of_mem_replicate hz]
    exact Nat.zero_le _)
  intro z hz
  have := s3 z hz
  rw [List.length_range, Nat.zero_add] at this
  have h4 : ys.length * xs.length ≤ 64 * 64 := Nat.mul_le_mul ly lx
  unfold Bit
  rw [Nat.pow_add 2 (a + b) 13, Nat.mul_comm (2 ^ (a + b))]
  have h5 : ys.length * xs.length * 2 ^ (a + b) ≤ 64 * 64 * 2 ^ (a + b) := Nat.mul_le_mul_right _ h4
  have h6 : 64 * 64 * 2 ^ (a + b) < 2 ^ 13 * 2 ^ (a + b) := Nat.mul_lt_mul_of_pos_right (by decide) (Nat.two_pow_pos _)
  omega
def sp_prod : DSp := pf 2 (fun a : List Int × List Int => [tp a.1, tp a.2]) (fun a => a.1.length ≤ 200 ∧ a.2.length ≤ 200 ∧ (∀ x ∈ a.1, Bit 300000 x) ∧ (∀ x ∈ a.2, Bit 300000 x)) (fun a => tp (trim (prodF a.1 a.2)))
theorem ixN_nat {n k : Nat} (h : k < n) : ixN n (k : Int) = some k := by
  unfold ixN
  rw [if_pos (by omega), if_pos (by omega)]
  rfl
theorem b_poly_times : BodyOk [sp_trim] [] 5 ir_poly_times sp_prod := by
  refine body_pf (fun a M _ => cl_tp) fun ⟨xs, ys⟩ M h _ => ?_
  obtain ⟨h1, h2, h3, h4⟩ := h
  dsimp only at h1 h2 h3 h4
  unfold ir_poly_times
  try simp only [↓x_var, ↓x_cst, ↓x_glob, ↓x_tup, ↓x_lst, ↓x_bin, ↓x_neg, ↓x_not, ↓x_and, ↓x_or, ↓x_cmp, ↓x_isN, ↓x_ite, ↓x_ix, ↓x_sl, ↓x_call, ↓x_call0, ↓x_blt, ↓x_isi, ↓x_lc, ↓x_nil, ↓x_cons, ↓x_and1, ↓x_and2, ↓x_or1, ↓x_or2, ↓x_ioN, ↓x_ioS, ↓x_seq, ↓x_rng1, ↓x_rng2, ↓x_pop, ↓x_disp, ↓x_rev, revX_tup, x_end, ↓x_snil, ↓x_scons, ↓x_set, ↓x_par, ↓x_par3, ↓x_unp, ↓x_six, ↓x_exp, ↓x_app, ↓x_ret, ↓x_retN, ↓x_pass, ↓x_brk, ↓x_cont, ↓x_never, ↓x_if, ↓x_for, ↓x_while, refX_ref, v_get, v_getO, v_getI, v_lst, v_ift, v_iff, v_ifn, v_ifd, v_ife, v_if0, v_ifb, v_newF, v_newT, v_tup, v_add, v_sub, v_mul, v_fdiv, v_mod, v_pow, v_addT, v_addL, v_mulL, v_lt, v_le, v_gt, v_ge, v_eqI, v_neI, v_eqB, v_neB, v_ixT, v_ixL, v_slT, v_slL, v_slS, v_lenT, v_lenL, v_int, v_abs, v_max2, v_min2, v_gcd, v_tupT, v_tupL, v_lstT, v_lstL, v_tg1, v_tg2, v_tg3, t_bl, t_int, t_non, s_tup, s_lst, s_scr, isNon, CV.d, isTys, isTy, List.getElem?_cons_zero, List.getElem?_cons_succ, List.set_cons_zero, List.set_cons_succ, put_same, put_put, wipeE, tgSlots, pureSC, List.length_map, List.length_cons, List.length_nil, Bool.or_false, Bool.or_true, Bool.not_true, Bool.not_false, p_ix, p_six, p_len, p_tup, Ext_r, reduceCtorEq, decide_true, decide_false, decide_eq_true_eq, or_true, true_or, or_false, false_or, and_self, true_and, and_true, false_and, and_false, Bool.false_eq_true, Bool.true_eq_false, false_implies, true_implies, implies_true, not_true_eq_false, not_false_eq_true, startE, List.map_cons, List.map_nil, Nat.reduceAdd, Nat.reduceSub, Nat.reduceMul, List.replicate_succ, List.replicate_zero, List.cons_append, List.nil_append, decide_eq_false_iff_not, List.getElem?_map, Option.map_some, p_isL, p_appX, Bool.false_bne, Bool.true_bne, beq_self_eq_true]
  refine ⟨⟨?_, by unfold sizeLine; omega⟩, by decide⟩
  intro p hp
  rw [repL_one, show ((xs.length : Int) + ys.length).toNat = xs.length + ys.length by omega]
  refine ⟨by omega, ?_⟩
  refine for_list (fun k : Nat => D.int k) (List.range xs.length) (fun done ρ M' => ∃ x3 x4, ρ = [some (tp xs), some (tp ys), some (.ref p), x3, x4] ∧ M' = put M p (.lst ((done.foldl (prodRow xs ys) (List.replicate (xs.length + ys.length) 0)).map D.int))) (by rw [Int.toNat_natCast]) ⟨none, none, rfl, by rw [List.foldl_nil, List.map_replicate]⟩ ?_ ?_
  · rintro done k rest ρ M' he ⟨x3, x4, rfl, rfl⟩
    have hk : k < xs.length := by
      have : k ∈ List.range xs.length := by rw [he]; simp
      exact List.mem_range.mp this
    try simp only [↓x_var, ↓x_cst, ↓x_glob, ↓x_tup, ↓x_lst, ↓x_bin, ↓x_neg, ↓x_not, ↓x_and, ↓x_or, ↓x_cmp, ↓x_isN, ↓x_ite, ↓x_ix, ↓x_sl, ↓x_call, ↓x_call0, ↓x_blt, ↓x_isi, ↓x_lc, ↓x_nil, ↓x_cons, ↓x_and1, ↓x_and2, ↓x_or1, ↓x_or2, ↓x_ioN, ↓x_ioS, ↓x_seq, ↓x_rng1, ↓x_rng2, ↓x_pop, ↓x_disp, ↓x_rev, revX_tup, x_end, ↓x_snil, ↓x_scons, ↓x_set, ↓x_par, ↓x_par3, ↓x_unp, ↓x_six, ↓x_exp, ↓x_app, ↓x_ret, ↓x_retN, ↓x_pass, ↓x_brk, ↓x_cont, ↓x_never, ↓x_if, ↓x_for, ↓x_while, refX_ref, v_get, v_getO, v_getI, v_lst, v_ift, v_iff, v_ifn, v_ifd, v_ife, v_if0, v_ifb, v_newF, v_newT, v_tup, v_add, v_sub, v_mul, v_fdiv, v_mod, v_pow, v_addT, v_addL, v_mulL, v_lt, v_le, v_gt, v_ge, v_eqI, v_neI, v_eqB, v_neB, v_ixT, v_ixL, v_slT, v_slL, v_slS, v_lenT, v_lenL, v_int, v_abs, v_max2, v_min2, v_gcd, v_tupT, v_tupL, v_lstT, v_lstL, v_tg1, v_tg2, v_tg3, t_bl, t_int, t_non, s_tup, s_lst, s_scr, isNon, CV.d, isTys, isTy, List.getElem?_cons_zero, List.getElem?_cons_succ, List.set_cons_zero, List.set_cons_succ, put_same, put_put, wipeE, tgSlots, pureSC, List.length_map, List.length_cons, List.length_nil, Bool.or_false, Bool.or_true, Bool.not_true, Bool.not_false, p_ix, p_six, p_len, p_tup, Ext_r, reduceCtorEq, decide_true, decide_false, decide_eq_true_eq, or_true, true_or, or_false, false_or, and_self, true_and, and_true, false_and, and_false, Bool.false_eq_true, Bool.true_eq_false, false_implies, true_implies, implies_true, not_true_eq_false, not_false_eq_true, startE, List.map_cons, List.map_nil, Nat.reduceAdd, Nat.reduceSub, Nat.reduceMul, List.replicate_succ, List.replicate_zero, List.cons_append, List.nil_append, decide_eq_false_iff_not, List.getElem?_map, Option.map_some, p_isL, p_appX, Bool.false_bne, Bool.true_bne, beq_self_eq_true]
    refine ⟨by omega, ?_⟩
    refine for_list (fun j : Nat => D.int j) (List.range ys.length) (fun done2 ρ M' => ∃ x4, ρ = [some (tp xs), some (tp ys), some (.ref p), some (.int k), x4] ∧ M' = put M p (.lst ((done2.foldl (prodStep xs ys k) (done.foldl (prodRow xs ys) (List.replicate (xs.length + ys.length) 0))).map D.int))) (by rw [Int.toNat_natCast]) ⟨x4, rfl, rfl⟩ ?_ ?_
    · rintro done2 j rest2 ρ M' he2 ⟨x4, rfl, rfl⟩
      have hj : j < ys.length := by
        have : j ∈ List.range ys.length := by rw [he2]; simp
        exact List.mem_range.mp this
      generalize hF : done2.foldl (prodStep xs ys k) (done.foldl (prodRow xs ys) (List.replicate (xs.length + ys.length) 0)) = F
      have lF : F.length = xs.length + ys.length := by rw [← hF, steps_len, rows_len, List.length_replicate]
      have ei : (k : Int) + (j : Int) = ((k + j : Nat) : Int) := by omega
      have e1 : F[k + j]? = some (F[k + j]'(by omega)) := List.getElem?_eq_getElem (by omega)
      have e2 : xs[k]? = some (xs[k]'hk) := List.getElem?_eq_getElem hk
      have e3 : ys[j]? = some (ys[j]'hj) := List.getElem?_eq_getElem hj
      try simp only [↓x_var, ↓x_cst, ↓x_glob, ↓x_tup, ↓x_lst, ↓x_bin, ↓x_neg, ↓x_not, ↓x_and, ↓x_or, ↓x_cmp, ↓x_isN, ↓x_ite, ↓x_ix, ↓x_sl, ↓x_call, ↓x_call0, ↓x_blt, ↓x_isi, ↓x_lc, ↓x_nil, ↓x_cons, ↓x_and1, ↓x_and2, ↓x_or1, ↓x_or2, ↓x_ioN, ↓x_ioS, ↓x_seq, ↓x_rng1, ↓x_rng2, ↓x_pop, ↓x_disp, ↓x_rev, revX_tup, x_end, ↓x_snil, ↓x_scons, ↓x_set, ↓x_par, ↓x_par3, ↓x_unp, ↓x_six, ↓x_exp, ↓x_app, ↓x_ret, ↓x_retN, ↓x_pass, ↓x_brk, ↓x_cont, ↓x_never, ↓x_if, ↓x_for, ↓x_while, refX_ref, v_get, v_getO, v_getI, v_lst, v_ift, v_iff, v_ifn, v_ifd, v_ife, v_if0, v_ifb, v_newF, v_newT, v_tup, v_add, v_sub, v_mul, v_fdiv, v_mod, v_pow, v_addT, v_addL, v_mulL, v_lt, v_le, v_gt, v_ge, v_eqI, v_neI, v_eqB, v_neB, v_ixT, v_ixL, v_slT, v_slL, v_slS, v_lenT, v_lenL, v_int, v_abs, v_max2, v_min2, v_gcd, v_tupT, v_tupL, v_lstT, v_lstL, v_tg1, v_tg2, v_tg3, t_bl, t_int, t_non, s_tup, s_lst, s_scr, isNon, CV.d, isTys, isTy, List.getElem?_cons_zero, List.getElem?_cons_succ, List.set_cons_zero, List.set_cons_succ, put_same, put_put, wipeE, tgSlots, pureSC, List.length_map, List.length_cons, List.length_nil, Bool.or_false, Bool.or_true, Bool.not_true, Bool.not_false, p_ix, p_six, p_len, p_tup, Ext_r, reduceCtorEq, decide_true, decide_false, decide_eq_true_eq, or_true, true_or, or_false, false_or, and_self, true_and, and_true, false_and, and_false, Bool.false_eq_true, Bool.true_eq_false, false_implies, true_implies, implies_true, not_true_eq_false, not_false_eq_true, startE, List.map_cons, List.map_nil, Nat.reduceAdd, Nat.reduceSub, Nat.reduceMul, List.replicate_succ, List.replicate_zero, List.cons_append, List.nil_append, decide_eq_false_iff_not, List.getElem?_map, Option.map_some, p_isL, p_appX, Bool.false_bne, Bool.true_bne, beq_self_eq_true,  ei, atI_nat, e1, e2, e3]
      refine ⟨mulOk_of (h3 _ (List.getElem_mem _)) (h4 _ (List.getElem_mem _)), ?_⟩
      rw [ixN_nat (by omega)]
      try simp only [↓x_var, ↓x_cst, ↓x_glob, ↓x_tup, ↓x_lst, ↓x_bin, ↓x_neg, ↓x_not, ↓x_and, ↓x_or, ↓x_cmp, ↓x_isN, ↓x_ite, ↓x_ix, ↓x_sl, ↓x_call, ↓x_call0, ↓x_blt, ↓x_isi, ↓x_lc, ↓x_nil, ↓x_cons, ↓x_and1, ↓x_and2, ↓x_or1, ↓x_or2, ↓x_ioN, ↓x_ioS, ↓x_seq, ↓x_rng1, ↓x_rng2, ↓x_pop, ↓x_disp, ↓x_rev, revX_tup, x_end, ↓x_snil, ↓x_scons, ↓x_set, ↓x_par, ↓x_par3, ↓x_unp, ↓x_six, ↓x_exp, ↓x_app, ↓x_ret, ↓x_retN, ↓x_pass, ↓x_brk, ↓x_cont, ↓x_never, ↓x_if, ↓x_for, ↓x_while, refX_ref, v_get, v_getO, v_getI, v_lst, v_ift, v_iff, v_ifn, v_ifd, v_ife, v_if0, v_ifb, v_newF, v_newT, v_tup, v_add, v_sub, v_mul, v_fdiv, v_mod, v_pow, v_addT, v_addL, v_mulL, v_lt, v_le, v_gt, v_ge, v_eqI, v_neI, v_eqB, v_neB, v_ixT, v_ixL, v_slT, v_slL, v_slS, v_lenT, v_lenL, v_int, v_abs, v_max2, v_min2, v_gcd, v_tupT, v_tupL, v_lstT, v_lstL, v_tg1, v_tg2, v_tg3, t_bl, t_int, t_non, s_tup, s_lst, s_scr, isNon, CV.d, isTys, isTy, List.getElem?_cons_zero, List.getElem?_cons_succ, List.set_cons_zero, List.set_cons_succ, put_same, put_put, wipeE, tgSlots, pureSC, List.length_map, List.length_cons, List.length_nil, Bool.or_false, Bool.or_true, Bool.not_true, Bool.not_false, p_ix, p_six, p_len, p_tup, Ext_r, reduceCtorEq, decide_true, decide_false, decide_eq_true_eq, or_true, true_or, or_false, false_or, and_self, true_and, and_true, false_and, and_false, Bool.false_eq_true, Bool.true_eq_false, false_implies, true_implies, implies_true, not_true_eq_false, not_false_eq_true, startE, List.map_cons, List.map_nil, Nat.reduceAdd, Nat.reduceSub, Nat.reduceMul, List.replicate_succ, List.replicate_zero, List.cons_append, List.nil_append, decide_eq_false_iff_not, List.getElem?_map, Option.map_some, p_isL, p_appX, Bool.false_bne, Bool.true_bne, beq_self_eq_true]
      refine ⟨_, rfl, ?_⟩
      rw [List.foldl_append, hF, List.foldl_cons, List.foldl_nil, ← List.map_set]
      unfold prodStep
      simp only [List.getD_eq_getElem?_getD, e1, e2, e3, Option.getD_some]
    · rintro ρ M' ⟨x4, rfl, rfl⟩
      try simp only [↓x_var, ↓x_cst, ↓x_glob, ↓x_tup, ↓x_lst, ↓x_bin, ↓x_neg, ↓x_not, ↓x_and, ↓x_or, ↓x_cmp, ↓x_isN, ↓x_ite, ↓x_ix, ↓x_sl, ↓x_call, ↓x_call0, ↓x_blt, ↓x_isi, ↓x_lc, ↓x_nil, ↓x_cons, ↓x_and1, ↓x_and2, ↓x_or1, ↓x_or2, ↓x_ioN, ↓x_ioS, ↓x_seq, ↓x_rng1, ↓x_rng2, ↓x_pop, ↓x_disp, ↓x_rev, revX_tup, x_end, ↓x_snil, ↓x_scons, ↓x_set, ↓x_par, ↓x_par3, ↓x_unp, ↓x_six, ↓x_exp, ↓x_app, ↓x_ret, ↓x_retN, ↓x_pass, ↓x_brk, ↓x_cont, ↓x_never, ↓x_if, ↓x_for, ↓x_while, refX_ref, v_get, v_getO, v_getI, v_lst, v_ift, v_iff, v_ifn, v_ifd, v_ife, v_if0, v_ifb, v_newF, v_newT, v_tup, v_add, v_sub, v_mul, v_fdiv, v_mod, v_pow, v_addT, v_addL, v_mulL, v_lt, v_le, v_gt, v_ge, v_eqI, v_neI, v_eqB, v_neB, v_ixT, v_ixL, v_slT, v_slL, v_slS, v_lenT, v_lenL, v_int, v_abs, v_max2, v_min2, v_gcd, v_tupT, v_tupL, v_lstT, v_lstL, v_tg1, v_tg2, v_tg3, t_bl, t_int, t_non, s_tup, s_lst, s_scr, isNon, CV.d, isTys, isTy, List.getElem?_cons_zero, List.getElem?_cons_succ, List.set_cons_zero, List.set_cons_succ, put_same, put_put, wipeE, tgSlots, pureSC, List.length_map, List.length_cons, List.length_nil, Bool.or_false, Bool.or_true, Bool.not_true, Bool.not_false, p_ix, p_six, p_len, p_tup, Ext_r, reduceCtorEq, decide_true, decide_false, decide_eq_true_eq, or_true, true_or, or_false, false_or, and_self, true_and, and_true, false_and, and_false, Bool.false_eq_true, Bool.true_eq_false, false_implies, true_implies, implies_true, not_true_eq_false, not_false_eq_true, startE, List.map_cons, List.map_nil, Nat.reduceAdd, Nat.reduceSub, Nat.reduceMul, List.replicate_succ, List.replicate_zero, List.cons_append, List.nil_append, decide_eq_false_iff_not, List.getElem?_map, Option.map_some, p_isL, p_appX, Bool.false_bne, Bool.true_bne, beq_self_eq_true]
      refine ⟨_, _, rfl, ?_⟩
      rw [List.foldl_append]
      rfl
  · rintro ρ M' ⟨x3, x4, rfl, rfl⟩
    try simp only [↓x_var, ↓x_cst, ↓x_glob, ↓x_tup, ↓x_lst, ↓x_bin, ↓x_neg, ↓x_not, ↓x_and, ↓x_or, ↓x_cmp, ↓x_isN, ↓x_ite, ↓x_ix, ↓x_sl, ↓x_call, ↓x_call0, ↓x_blt, ↓x_isi, ↓x_lc, ↓x_nil, ↓x_cons, ↓x_and1, ↓x_and2, ↓x_or1, ↓x_or2, ↓x_ioN, ↓x_ioS, ↓x_seq, ↓x_rng1, ↓x_rng2, ↓x_pop, ↓x_disp, ↓x_rev, revX_tup, x_end, ↓x_snil, ↓x_scons, ↓x_set, ↓x_par, ↓x_par3, ↓x_unp, ↓x_six, ↓x_exp, ↓x_app, ↓x_ret, ↓x_retN, ↓x_pass, ↓x_brk, ↓x_cont, ↓x_never, ↓x_if, ↓x_for, ↓x_while, refX_ref, v_get, v_getO, v_getI, v_lst, v_ift, v_iff, v_ifn, v_ifd, v_ife, v_if0, v_ifb, v_newF, v_newT, v_tup, v_add, v_sub, v_mul, v_fdiv, v_mod, v_pow, v_addT, v_addL, v_mulL, v_lt, v_le, v_gt, v_ge, v_eqI, v_neI, v_eqB, v_neB, v_ixT, v_ixL, v_slT, v_slL, v_slS, v_lenT, v_lenL, v_int, v_abs, v_max2, v_min2, v_gcd, v_tupT, v_tupL, v_lstT, v_lstL, v_tg1, v_tg2, v_tg3, t_bl, t_int, t_non, s_tup, s_lst, s_scr, isNon, CV.d, isTys, isTy, List.getElem?_cons_zero, List.getElem?_cons_succ, List.set_cons_zero, List.set_cons_succ, put_same, put_put, wipeE, tgSlots, pureSC, List.length_map, List.length_cons, List.length_nil, Bool.or_false, Bool.or_true, Bool.not_true, Bool.not_false, p_ix, p_six, p_len, p_tup, Ext_r, reduceCtorEq, decide_true, decide_false, decide_eq_true_eq, or_true, true_or, or_false, false_or, and_self, true_and, and_true, false_and, and_false, Bool.false_eq_true, Bool.true_eq_false, false_implies, true_implies, implies_true, not_true_eq_false, not_false_eq_true, startE, List.map_cons, List.map_nil, Nat.reduceAdd, Nat.reduceSub, Nat.reduceMul, List.replicate_succ, List.replicate_zero, List.cons_append, List.nil_append, decide_eq_false_iff_not, List.getElem?_map, Option.map_some, p_isL, p_appX, Bool.false_bne, Bool.true_bne, beq_self_eq_true]
    exact call_trim (prodF xs ys) (by rw [prod_len]; omega) ⟨rfl, Ext.refl.put hp⟩ (.ref p) (r_ref put_same)
theorem b__law_product : BodyOk [sp_trim] [] 5 ir__law_product sp_prod := b_poly_times
/-! ### powers of a polynomial -/
def powP (xs : List Int) : Nat → List Int
  | 0 => [1]
  | k + 1 => trim (prodF (powP xs k) xs)
theorem pow_ok {xs : List Int} (h1 : xs.length ≤ 10) (h2 : ∀ x ∈ xs, Bit 20 x) : ∀ k, k ≤ 5 → (powP xs k).length ≤ 1 + 10 * k ∧ ∀ z ∈ powP xs k, Bit (1 + 33 * k) z
  | 0, _ => ⟨by show 1 ≤ 1; decide, fun z hz => by rw [List.mem_singleton.mp hz]; decide⟩
  | k + 1, hk => by
    obtain ⟨g1, g2⟩ := pow_ok h1 h2 k (by omega)
    refine ⟨?_, fun z hz => ?_⟩
    · have := trim_len (xs := prodF (powP xs k) xs)
      rw [prod_len] at this
      show (trim _).length ≤ _
      omega
    · exact (prod_bit g2 h2 (by omega) (by omega) z (trim_mem hz)).up (by omega)
def sp_raised : DSp := pf 2 (fun a : List Int × Nat => [tp a.1, .int a.2]) (fun a => a.1.length ≤ 10 ∧ (∀ x ∈ a.1, Bit 20 x) ∧ a.2 ≤ 5) (fun a => tp (powP a.1 a.2))
theorem b_poly_raised : BodyOk [sp_prod] [] 4 ir_poly_raised sp_raised := by
  refine body_pf (fun a M _ => cl_tp) fun ⟨xs, k⟩ M h _ => ?_
  obtain ⟨h1, h2, h3⟩ := h
  dsimp only at h1 h2 h3
  unfold ir_poly_raised
  try simp only [↓x_var, ↓x_cst, ↓x_glob, ↓x_tup, ↓x_lst, ↓x_bin, ↓x_neg, ↓x_not, ↓x_and, ↓x_or, ↓x_cmp, ↓x_isN, ↓x_ite, ↓x_ix, ↓x_sl, ↓x_call, ↓x_call0, ↓x_blt, ↓x_isi, ↓x_lc, ↓x_nil, ↓x_cons, ↓x_and1, ↓x_and2, ↓x_or1, ↓x_or2, ↓x_ioN, ↓x_ioS, ↓x_seq, ↓x_rng1, ↓x_rng2, ↓x_pop, ↓x_disp, ↓x_rev, revX_tup, x_end, ↓x_snil, ↓x_scons, ↓x_set, ↓x_par, ↓x_par3, ↓x_unp, ↓x_six, ↓x_exp, ↓x_app, ↓x_ret, ↓x_retN, ↓x_pass, ↓x_brk, ↓x_cont, ↓x_never, ↓x_if, ↓x_for, ↓x_while, refX_ref, v_get, v_getO, v_getI, v_lst, v_ift, v_iff, v_ifn, v_ifd, v_ife, v_if0, v_ifb, v_newF, v_newT, v_tup, v_add, v_sub, v_mul, v_fdiv, v_mod, v_pow, v_addT, v_addL, v_mulL, v_lt, v_le, v_gt, v_ge, v_eqI, v_neI, v_eqB, v_neB, v_ixT, v_ixL, v_slT, v_slL, v_slS, v_lenT, v_lenL, v_int, v_abs, v_max2, v_min2, v_gcd, v_tupT, v_tupL, v_lstT, v_lstL, v_tg1, v_tg2, v_tg3, t_bl, t_int, t_non, s_tup, s_lst, s_scr, isNon, CV.d, isTys, isTy, List.getElem?_cons_zero, List.getElem?_cons_succ, List.set_cons_zero, List.set_cons_succ, put_same, put_put, wipeE, tgSlots, pureSC, List.length_map, List.length_cons, List.length_nil, Bool.or_false, Bool.or_true, Bool.not_true, Bool.not_false, p_ix, p_six, p_len, p_tup, Ext_r, reduceCtorEq, decide_true, decide_false, decide_eq_true_eq, or_true, true_or, or_false, false_or, and_self, true_and, and_true, false_and, and_false, Bool.false_eq_true, Bool.true_eq_false, false_implies, true_implies, implies_true, not_true_eq_false, not_false_eq_true, startE, List.map_cons, List.map_nil, Nat.reduceAdd, Nat.reduceSub, Nat.reduceMul, List.replicate_succ, List.replicate_zero, List.cons_append, List.nil_append, decide_eq_false_iff_not, List.getElem?_map, Option.map_some, p_isL, p_appX, Bool.false_bne, Bool.true_bne, beq_self_eq_true]
  refine ⟨by decide, by omega, ?_⟩
  refine for_list (fun j : Nat => D.int j) (List.range k) (fun done ρ M' => M' = M ∧ ∃ x, ρ = [some (tp xs), some (.int k), some (tp (powP xs done.length)), x] ∧ done.length ≤ k) (by rw [Int.toNat_natCast]) ⟨rfl, none, rfl, Nat.zero_le _⟩ ?_ ?_
  · rintro done a rest ρ M' he ⟨rfl, x, rfl, hd⟩
    have hl := congrArg List.length he
    rw [List.length_append, List.length_cons, List.length_range] at hl
    obtain ⟨g1, g2⟩ := pow_ok h1 h2 done.length (by omega)
    try simp only [↓x_var, ↓x_cst, ↓x_glob, ↓x_tup, ↓x_lst, ↓x_bin, ↓x_neg, ↓x_not, ↓x_and, ↓x_or, ↓x_cmp, ↓x_isN, ↓x_ite, ↓x_ix, ↓x_sl, ↓x_call, ↓x_call0, ↓x_blt, ↓x_isi, ↓x_lc, ↓x_nil, ↓x_cons, ↓x_and1, ↓x_and2, ↓x_or1, ↓x_or2, ↓x_ioN, ↓x_ioS, ↓x_seq, ↓x_rng1, ↓x_rng2, ↓x_pop, ↓x_disp, ↓x_rev, revX_tup, x_end, ↓x_snil, ↓x_scons, ↓x_set, ↓x_par, ↓x_par3, ↓x_unp, ↓x_six, ↓x_exp, ↓x_app, ↓x_ret, ↓x_retN, ↓x_pass, ↓x_brk, ↓x_cont, ↓x_never, ↓x_if, ↓x_for, ↓x_while, refX_ref, v_get, v_getO, v_getI, v_lst, v_ift, v_iff, v_ifn, v_ifd, v_ife, v_if0, v_ifb, v_newF, v_newT, v_tup, v_add, v_sub, v_mul, v_fdiv, v_mod, v_pow, v_addT, v_addL, v_mulL, v_lt, v_le, v_gt, v_ge, v_eqI, v_neI, v_eqB, v_neB, v_ixT, v_ixL, v_slT, v_slL, v_slS, v_lenT, v_lenL, v_int, v_abs, v_max2, v_min2, v_gcd, v_tupT, v_tupL, v_lstT, v_lstL, v_tg1, v_tg2, v_tg3, t_bl, t_int, t_non, s_tup, s_lst, s_scr, isNon, CV.d, isTys, isTy, List.getElem?_cons_zero, List.getElem?_cons_succ, List.set_cons_zero, List.set_cons_succ, put_same, put_put, wipeE, tgSlots, pureSC, List.length_map, List.length_cons, List.length_nil, Bool.or_false, Bool.or_true, Bool.not_true, Bool.not_false, p_ix, p_six, p_len, p_tup, Ext_r, reduceCtorEq, decide_true, decide_false, decide_eq_true_eq, or_true, true_or, or_false, false_or, and_self, true_and, and_true, false_and, and_false, Bool.false_eq_true, Bool.true_eq_false, false_implies, true_implies, implies_true, not_true_eq_false, not_false_eq_true, startE, List.map_cons, List.map_nil, Nat.reduceAdd, Nat.reduceSub, Nat.reduceMul, List.replicate_succ, List.replicate_zero, List.cons_append, List.nil_append, decide_eq_false_iff_not, List.getElem?_map, Option.map_some, p_isL, p_appX, Bool.false_bne, Bool.true_bne, beq_self_eq_true]
    refine call_pf (powP xs done.length, xs) rfl ⟨show (powP xs done.length).length ≤ 200 from by omega, show xs.length ≤ 200 from by omega, fun z hz => (g2 z hz).up (by omega), fun z hz => (h2 z hz).up (by decide)⟩ ?_
    try simp only [↓x_var, ↓x_cst, ↓x_glob, ↓x_tup, ↓x_lst, ↓x_bin, ↓x_neg, ↓x_not, ↓x_and, ↓x_or, ↓x_cmp, ↓x_isN, ↓x_ite, ↓x_ix, ↓x_sl, ↓x_call, ↓x_call0, ↓x_blt, ↓x_isi, ↓x_lc, ↓x_nil, ↓x_cons, ↓x_and1, ↓x_and2, ↓x_or1, ↓x_or2, ↓x_ioN, ↓x_ioS, ↓x_seq, ↓x_rng1, ↓x_rng2, ↓x_pop, ↓x_disp, ↓x_rev, revX_tup, x_end, ↓x_snil, ↓x_scons, ↓x_set, ↓x_par, ↓x_par3, ↓x_unp, ↓x_six, ↓x_exp, ↓x_app, ↓x_ret, ↓x_retN, ↓x_pass, ↓x_brk, ↓x_cont, ↓x_never, ↓x_if, ↓x_for, ↓x_while, refX_ref, v_get, v_getO, v_getI, v_lst, v_ift, v_iff, v_ifn, v_ifd, v_ife, v_if0, v_ifb, v_newF, v_newT, v_tup, v_add, v_sub, v_mul, v_fdiv, v_mod, v_pow, v_addT, v_addL, v_mulL, v_lt, v_le, v_gt, v_ge, v_eqI, v_neI, v_eqB, v_neB, v_ixT, v_ixL, v_slT, v_slL, v_slS, v_lenT, v_lenL, v_int, v_abs, v_max2, v_min2, v_gcd, v_tupT, v_tupL, v_lstT, v_lstL, v_tg1, v_tg2, v_tg3, t_bl, t_int, t_non, s_tup, s_lst, s_scr, isNon, CV.d, isTys, isTy, List.getElem?_cons_zero, List.getElem?_cons_succ, List.set_cons_zero, List.set_cons_succ, put_same, put_put, wipeE, tgSlots, pureSC, List.length_map, List.length_cons, List.length_nil, Bool.or_false, Bool.or_true, Bool.not_true, Bool.not_false, p_ix, p_six, p_len, p_tup, Ext_r, reduceCtorEq, decide_true, decide_false, decide_eq_true_eq, or_true, true_or, or_false, false_or, and_self, true_and, and_true, false_and, and_false, Bool.false_eq_true, Bool.true_eq_false, false_implies, true_implies, implies_true, not_true_eq_false, not_false_eq_true, startE, List.map_cons, List.map_nil, Nat.reduceAdd, Nat.reduceSub, Nat.reduceMul, List.replicate_succ, List.replicate_zero, List.cons_append, List.nil_append, decide_eq_false_iff_not, List.getElem?_map, Option.map_some, p_isL, p_appX, Bool.false_bne, Bool.true_bne, beq_self_eq_true]
    refine ⟨some (.int a), ?_, by rw [List.length_append]; show _ + 1 ≤ _; omega⟩
    rw [List.length_append]
    rfl
  · rintro ρ M' ⟨rfl, x, rfl, hd⟩
    try simp only [↓x_var, ↓x_cst, ↓x_glob, ↓x_tup, ↓x_lst, ↓x_bin, ↓x_neg, ↓x_not, ↓x_and, ↓x_or, ↓x_cmp, ↓x_isN, ↓x_ite, ↓x_ix, ↓x_sl, ↓x_call, ↓x_call0, ↓x_blt, ↓x_isi, ↓x_lc, ↓x_nil, ↓x_cons, ↓x_and1, ↓x_and2, ↓x_or1, ↓x_or2, ↓x_ioN, ↓x_ioS, ↓x_seq, ↓x_rng1, ↓x_rng2, ↓x_pop, ↓x_disp, ↓x_rev, revX_tup, x_end, ↓x_snil, ↓x_scons, ↓x_set, ↓x_par, ↓x_par3, ↓x_unp, ↓x_six, ↓x_exp, ↓x_app, ↓x_ret, ↓x_retN, ↓x_pass, ↓x_brk, ↓x_cont, ↓x_never, ↓x_if, ↓x_for, ↓x_while, refX_ref, v_get, v_getO, v_getI, v_lst, v_ift, v_iff, v_ifn, v_ifd, v_ife, v_if0, v_ifb, v_newF, v_newT, v_tup, v_add, v_sub, v_mul, v_fdiv, v_mod, v_pow, v_addT, v_addL, v_mulL, v_lt, v_le, v_gt, v_ge, v_eqI, v_neI, v_eqB, v_neB, v_ixT, v_ixL, v_slT, v_slL, v_slS, v_lenT, v_lenL, v_int, v_abs, v_max2, v_min2, v_gcd, v_tupT, v_tupL, v_lstT, v_lstL, v_tg1, v_tg2, v_tg3, t_bl, t_int, t_non, s_tup, s_lst, s_scr, isNon, CV.d, isTys, isTy, List.getElem?_cons_zero, List.getElem?_cons_succ, List.set_cons_zero, List.set_cons_succ, put_same, put_put, wipeE, tgSlots, pureSC, List.length_map, List.length_cons, List.length_nil, Bool.or_false, Bool.or_true, Bool.not_true, Bool.not_false, p_ix, p_six, p_len, p_tup, Ext_r, reduceCtorEq, decide_true, decide_false, decide_eq_true_eq, or_true, true_or, or_false, false_or, and_self, true_and, and_true, false_and, and_false, Bool.false_eq_true, Bool.true_eq_false, false_implies, true_implies, implies_true, not_true_eq_false, not_false_eq_true, startE, List.map_cons, List.map_nil, Nat.reduceAdd, Nat.reduceSub, Nat.reduceMul, List.replicate_succ, List.replicate_zero, List.cons_append, List.nil_append, decide_eq_false_iff_not, List.getElem?_map, Option.map_some, p_isL, p_appX, Bool.false_bne, Bool.true_bne, beq_self_eq_true]
    rw [List.length_range]
/-! ### values at a fraction -/
theorem Bit.pow {a : Nat} {i : Int} (h : Bit a i) : ∀ k, Bit (a * k + 1) (i ^ k)
  | 0 => by rw [Int.pow_zero]; exact Bit.up (k := 1) (by decide) (by omega)
  | k + 1 => by
    rw [Int.pow_succ]
    exact ((Bit.pow h k).mul h).up (by rw [Nat.mul_succ]; omega)
def topR (n d : Int) : List Int → Int
  | [] => 0
  | x :: r => x * d ^ r.length + n * topR n d r
def topS (xs : List Int) (n d : Int) (L : Nat) (t : Int) (k : Nat) : Int := t + xs.getD k 0 * n ^ k * d ^ (L - 1 - k)
theorem top_eq (n d : Int) : ∀ (xs : List Int) (m : Nat) (t : Int), (List.range xs.length).foldl (fun t k => t + xs.getD k 0 * n ^ (k + m) * d ^ (xs.length - 1 - k)) t = t + n ^ m * topR n d xs
  | [], m, t => by show t = t + n ^ m * 0; omega
  | x :: r, m, t => by
    rw [List.length_cons, List.range_succ_eq_map, List.foldl_cons, List.foldl_map]
    have ih := top_eq n d r (m + 1) (t + x * n ^ m * d ^ r.length)
    have e : (fun (t : Int) (k : Nat) => t + (x :: r).getD k.succ 0 * n ^ (k.succ + m) * d ^ (r.length + 1 - 1 - k.succ)) = fun t k => t + r.getD k 0 * n ^ (k + (m + 1)) * d ^ (r.length - 1 - k) := by
      funext t k
      rw [show k.succ + m = k + (m + 1) by omega, show r.length + 1 - 1 - k.succ = r.length - 1 - k by omega]
      rfl
    rw [e]
    show List.foldl _ (t + x * n ^ (0 + m) * d ^ (r.length + 1 - 1 - 0)) _ = _
    rw [show r.length + 1 - 1 - 0 = r.length by omega, Nat.zero_add, ih]
    show _ = t + n ^ m * (x * d ^ r.length + n * topR n d r)
    rw [Int.mul_add, Int.pow_succ, Int.add_assoc, Int.mul_assoc (n ^ m) n, ← Int.mul_assoc (n ^ m) x, Int.mul_comm (n ^ m) x]
def sp_poly_at : DSp := pf 2 (fun a : List Int × Int × Int => [tp a.1, .tup [.int a.2.1, .int a.2.2]]) (fun a => a.1.length ≤ 60 ∧ (∀ x ∈ a.1, Bit 1000 x) ∧ Bit 64 a.2.1 ∧ Bit 64 a.2.2 ∧ a.2.2 ≠ 0) (fun a => lowF (topR a.2.1 a.2.2 a.1) (a.2.2 ^ (a.1.length - 1)))
theorem b_poly_at : BodyOk [sp_power, sp_low] [] 6 ir_poly_at sp_poly_at := by
  refine body_pf (fun a M _ => cl_low) fun ⟨xs, n, d⟩ M h _ => ?_
  obtain ⟨h1, h2, h3, h4, h5⟩ := h
  dsimp only at h1 h2 h3 h4 h5
  unfold ir_poly_at
  try simp only [↓x_var, ↓x_cst, ↓x_glob, ↓x_tup, ↓x_lst, ↓x_bin, ↓x_neg, ↓x_not, ↓x_and, ↓x_or, ↓x_cmp, ↓x_isN, ↓x_ite, ↓x_ix, ↓x_sl, ↓x_call, ↓x_call0, ↓x_blt, ↓x_isi, ↓x_lc, ↓x_nil, ↓x_cons, ↓x_and1, ↓x_and2, ↓x_or1, ↓x_or2, ↓x_ioN, ↓x_ioS, ↓x_seq, ↓x_rng1, ↓x_rng2, ↓x_pop, ↓x_disp, ↓x_rev, revX_tup, x_end, ↓x_snil, ↓x_scons, ↓x_set, ↓x_par, ↓x_par3, ↓x_unp, ↓x_six, ↓x_exp, ↓x_app, ↓x_ret, ↓x_retN, ↓x_pass, ↓x_brk, ↓x_cont, ↓x_never, ↓x_if, ↓x_for, ↓x_while, refX_ref, v_get, v_getO, v_getI, v_lst, v_ift, v_iff, v_ifn, v_ifd, v_ife, v_if0, v_ifb, v_newF, v_newT, v_tup, v_add, v_sub, v_mul, v_fdiv, v_mod, v_pow, v_addT, v_addL, v_mulL, v_lt, v_le, v_gt, v_ge, v_eqI, v_neI, v_eqB, v_neB, v_ixT, v_ixL, v_slT, v_slL, v_slS, v_lenT, v_lenL, v_int, v_abs, v_max2, v_min2, v_gcd, v_tupT, v_tupL, v_lstT, v_lstL, v_tg1, v_tg2, v_tg3, t_bl, t_int, t_non, s_tup, s_lst, s_scr, isNon, CV.d, isTys, isTy, List.getElem?_cons_zero, List.getElem?_cons_succ, List.set_cons_zero, List.set_cons_succ, put_same, put_put, wipeE, tgSlots, pureSC, List.length_map, List.length_cons, List.length_nil, Bool.or_false, Bool.or_true, Bool.not_true, Bool.not_false, p_ix, p_six, p_len, p_tup, Ext_r, reduceCtorEq, decide_true, decide_false, decide_eq_true_eq, or_true, true_or, or_false, false_or, and_self, true_and, and_true, false_and, and_false, Bool.false_eq_true, Bool.true_eq_false, false_implies, true_implies, implies_true, not_true_eq_false, not_false_eq_true, startE, List.map_cons, List.map_nil, Nat.reduceAdd, Nat.reduceSub, Nat.reduceMul, List.replicate_succ, List.replicate_zero, List.cons_append, List.nil_append, decide_eq_false_iff_not, List.getElem?_map, Option.map_some, p_isL, p_appX, Bool.false_bne, Bool.true_bne, beq_self_eq_true,  show atI [D.int n, D.int d] 0 = some (.int n) from rfl, show atI [D.int n, D.int d] 1 = some (.int d) from rfl]
  refine ⟨by omega, ?_⟩
  refine for_list (fun j : Nat => D.int j) (List.range xs.length) (fun done ρ M' => M' = M ∧ ∃ x, ρ = [some (tp xs), some (.tup [.int n, .int d]), some (.int (done.foldl (topS xs n d xs.length) 0)), some (.int n), some (.int d), x]) (by rw [Int.toNat_natCast]) ⟨rfl, none, rfl⟩ ?_ ?_
  · rintro done k rest ρ M' he ⟨rfl, x, rfl⟩
    have hk : k < xs.length := by
      have : k ∈ List.range xs.length := by rw [he]; simp
      exact List.mem_range.mp this
    have e1 : xs[k]? = some (xs[k]'hk) := List.getElem?_eq_getElem hk
    have e2 : (xs.length : Int) - 1 - k = ((xs.length - 1 - k : Nat) : Int) := by omega
    try simp only [↓x_var, ↓x_cst, ↓x_glob, ↓x_tup, ↓x_lst, ↓x_bin, ↓x_neg, ↓x_not, ↓x_and, ↓x_or, ↓x_cmp, ↓x_isN, ↓x_ite, ↓x_ix, ↓x_sl, ↓x_call, ↓x_call0, ↓x_blt, ↓x_isi, ↓x_lc, ↓x_nil, ↓x_cons, ↓x_and1, ↓x_and2, ↓x_or1, ↓x_or2, ↓x_ioN, ↓x_ioS, ↓x_seq, ↓x_rng1, ↓x_rng2, ↓x_pop, ↓x_disp, ↓x_rev, revX_tup, x_end, ↓x_snil, ↓x_scons, ↓x_set, ↓x_par, ↓x_par3, ↓x_unp, ↓x_six, ↓x_exp, ↓x_app, ↓x_ret, ↓x_retN, ↓x_pass, ↓x_brk, ↓x_cont, ↓x_never, ↓x_if, ↓x_for, ↓x_while, refX_ref, v_get, v_getO, v_getI, v_lst, v_ift, v_iff, v_ifn, v_ifd, v_ife, v_if0, v_ifb, v_newF, v_newT, v_tup, v_add, v_sub, v_mul, v_fdiv, v_mod, v_pow, v_addT, v_addL, v_mulL, v_lt, v_le, v_gt, v_ge, v_eqI, v_neI, v_eqB, v_neB, v_ixT, v_ixL, v_slT, v_slL, v_slS, v_lenT, v_lenL, v_int, v_abs, v_max2, v_min2, v_gcd, v_tupT, v_tupL, v_lstT, v_lstL, v_tg1, v_tg2, v_tg3, t_bl, t_int, t_non, s_tup, s_lst, s_scr, isNon, CV.d, isTys, isTy, List.getElem?_cons_zero, List.getElem?_cons_succ, List.set_cons_zero, List.set_cons_succ, put_same, put_put, wipeE, tgSlots, pureSC, List.length_map, List.length_cons, List.length_nil, Bool.or_false, Bool.or_true, Bool.not_true, Bool.not_false, p_ix, p_six, p_len, p_tup, Ext_r, reduceCtorEq, decide_true, decide_false, decide_eq_true_eq, or_true, true_or, or_false, false_or, and_self, true_and, and_true, false_and, and_false, Bool.false_eq_true, Bool.true_eq_false, false_implies, true_implies, implies_true, not_true_eq_false, not_false_eq_true, startE, List.map_cons, List.map_nil, Nat.reduceAdd, Nat.reduceSub, Nat.reduceMul, List.replicate_succ, List.replicate_zero, List.cons_append, List.nil_append, decide_eq_false_iff_not, List.getElem?_map, Option.map_some, p_isL, p_appX, Bool.false_bne, Bool.true_bne, beq_self_eq_true,  atI_nat, e1]
    refine call_pf (n, k) rfl ⟨h3, by show k ≤ 64; omega⟩ ?_
    have b1 : Bit 1000 xs[k] := h2 _ (List.getElem_mem _)
    have b2 : Bit (64 * 64 + 1) (n ^ k) := (h3.pow k).up (by omega)
    have b3 : Bit (64 * 64 + 1) (d ^ (xs.length - 1 - k)) := (h4.pow _).up (by omega)
    try simp only [↓x_var, ↓x_cst, ↓x_glob, ↓x_tup, ↓x_lst, ↓x_bin, ↓x_neg, ↓x_not, ↓x_and, ↓x_or, ↓x_cmp, ↓x_isN, ↓x_ite, ↓x_ix, ↓x_sl, ↓x_call, ↓x_call0, ↓x_blt, ↓x_isi, ↓x_lc, ↓x_nil, ↓x_cons, ↓x_and1, ↓x_and2, ↓x_or1, ↓x_or2, ↓x_ioN, ↓x_ioS, ↓x_seq, ↓x_rng1, ↓x_rng2, ↓x_pop, ↓x_disp, ↓x_rev, revX_tup, x_end, ↓x_snil, ↓x_scons, ↓x_set, ↓x_par, ↓x_par3, ↓x_unp, ↓x_six, ↓x_exp, ↓x_app, ↓x_ret, ↓x_retN, ↓x_pass, ↓x_brk, ↓x_cont, ↓x_never, ↓x_if, ↓x_for, ↓x_while, refX_ref, v_get, v_getO, v_getI, v_lst, v_ift, v_iff, v_ifn, v_ifd, v_ife, v_if0, v_ifb, v_newF, v_newT, v_tup, v_add, v_sub, v_mul, v_fdiv, v_mod, v_pow, v_addT, v_addL, v_mulL, v_lt, v_le, v_gt, v_ge, v_eqI, v_neI, v_eqB, v_neB, v_ixT, v_ixL, v_slT, v_slL, v_slS, v_lenT, v_lenL, v_int, v_abs, v_max2, v_min2, v_gcd, v_tupT, v_tupL, v_lstT, v_lstL, v_tg1, v_tg2, v_tg3, t_bl, t_int, t_non, s_tup, s_lst, s_scr, isNon, CV.d, isTys, isTy, List.getElem?_cons_zero, List.getElem?_cons_succ, List.set_cons_zero, List.set_cons_succ, put_same, put_put, wipeE, tgSlots, pureSC, List.length_map, List.length_cons, List.length_nil, Bool.or_false, Bool.or_true, Bool.not_true, Bool.not_false, p_ix, p_six, p_len, p_tup, Ext_r, reduceCtorEq, decide_true, decide_false, decide_eq_true_eq, or_true, true_or, or_false, false_or, and_self, true_and, and_true, false_and, and_false, Bool.false_eq_true, Bool.true_eq_false, false_implies, true_implies, implies_true, not_true_eq_false, not_false_eq_true, startE, List.map_cons, List.map_nil, Nat.reduceAdd, Nat.reduceSub, Nat.reduceMul, List.replicate_succ, List.replicate_zero, List.cons_append, List.nil_append, decide_eq_false_iff_not, List.getElem?_map, Option.map_some, p_isL, p_appX, Bool.false_bne, Bool.true_bne, beq_self_eq_true,  e2]
    refine ⟨mulOk_of b1 b2, ?_⟩
    refine call_pf (d, xs.length - 1 - k) rfl ⟨h4, by show _ ≤ 64; omega⟩ ?_
    try simp only [↓x_var, ↓x_cst, ↓x_glob, ↓x_tup, ↓x_lst, ↓x_bin, ↓x_neg, ↓x_not, ↓x_and, ↓x_or, ↓x_cmp, ↓x_isN, ↓x_ite, ↓x_ix, ↓x_sl, ↓x_call, ↓x_call0, ↓x_blt, ↓x_isi, ↓x_lc, ↓x_nil, ↓x_cons, ↓x_and1, ↓x_and2, ↓x_or1, ↓x_or2, ↓x_ioN, ↓x_ioS, ↓x_seq, ↓x_rng1, ↓x_rng2, ↓x_pop, ↓x_disp, ↓x_rev, revX_tup, x_end, ↓x_snil, ↓x_scons, ↓x_set, ↓x_par, ↓x_par3, ↓x_unp, ↓x_six, ↓x_exp, ↓x_app, ↓x_ret, ↓x_retN, ↓x_pass, ↓x_brk, ↓x_cont, ↓x_never, ↓x_if, ↓x_for, ↓x_while, refX_ref, v_get, v_getO, v_getI, v_lst, v_ift, v_iff, v_ifn, v_ifd, v_ife, v_if0, v_ifb, v_newF, v_newT, v_tup, v_add, v_sub, v_mul, v_fdiv, v_mod, v_pow, v_addT, v_addL, v_mulL, v_lt, v_le, v_gt, v_ge, v_eqI, v_neI, v_eqB, v_neB, v_ixT, v_ixL, v_slT, v_slL, v_slS, v_lenT, v_lenL, v_int, v_abs, v_max2, v_min2, v_gcd, v_tupT, v_tupL, v_lstT, v_lstL, v_tg1, v_tg2, v_tg3, t_bl, t_int, t_non, s_tup, s_lst, s_scr, isNon, CV.d, isTys, isTy, List.getElem?_cons_zero, List.getElem?_cons_succ, List.set_cons_zero, List.set_cons_succ, put_same, put_put, wipeE, tgSlots, pureSC, List.length_map, List.length_cons, List.length_nil, Bool.or_false, Bool.or_true, Bool.not_true, Bool.not_false, p_ix, p_six, p_len, p_tup, Ext_r, reduceCtorEq, decide_true, decide_false, decide_eq_true_eq, or_true, true_or, or_false, false_or, and_self, true_and, and_true, false_and, and_false, Bool.false_eq_true, Bool.true_eq_false, false_implies, true_implies, implies_true, not_true_eq_false, not_false_eq_true, startE, List.map_cons, List.map_nil, Nat.reduceAdd, Nat.reduceSub, Nat.reduceMul, List.replicate_succ, List.replicate_zero, List.cons_append, List.nil_append, decide_eq_false_iff_not, List.getElem?_map, Option.map_some, p_isL, p_appX, Bool.false_bne, Bool.true_bne, beq_self_eq_true]
    refine ⟨mulOk_of (b1.mul b2) b3, ?_⟩
    refine ⟨some (.int k), ?_⟩
    rw [List.foldl_append, List.foldl_cons, List.foldl_nil]
    unfold topS
    rw [List.getD_eq_getElem?_getD, e1]
    rfl
  · rintro ρ M' ⟨rfl, x, rfl⟩
    have e2 : max ((xs.length : Int) - 1) 0 = ((xs.length - 1 : Nat) : Int) := by omega
    try simp only [↓x_var, ↓x_cst, ↓x_glob, ↓x_tup, ↓x_lst, ↓x_bin, ↓x_neg, ↓x_not, ↓x_and, ↓x_or, ↓x_cmp, ↓x_isN, ↓x_ite, ↓x_ix, ↓x_sl, ↓x_call, ↓x_call0, ↓x_blt, ↓x_isi, ↓x_lc, ↓x_nil, ↓x_cons, ↓x_and1, ↓x_and2, ↓x_or1, ↓x_or2, ↓x_ioN, ↓x_ioS, ↓x_seq, ↓x_rng1, ↓x_rng2, ↓x_pop, ↓x_disp, ↓x_rev, revX_tup, x_end, ↓x_snil, ↓x_scons, ↓x_set, ↓x_par, ↓x_par3, ↓x_unp, ↓x_six, ↓x_exp, ↓x_app, ↓x_ret, ↓x_retN, ↓x_pass, ↓x_brk, ↓x_cont, ↓x_never, ↓x_if, ↓x_for, ↓x_while, refX_ref, v_get, v_getO, v_getI, v_lst, v_ift, v_iff, v_ifn, v_ifd, v_ife, v_if0, v_ifb, v_newF, v_newT, v_tup, v_add, v_sub, v_mul, v_fdiv, v_mod, v_pow, v_addT, v_addL, v_mulL, v_lt, v_le, v_gt, v_ge, v_eqI, v_neI, v_eqB, v_neB, v_ixT, v_ixL, v_slT, v_slL, v_slS, v_lenT, v_lenL, v_int, v_abs, v_max2, v_min2, v_gcd, v_tupT, v_tupL, v_lstT, v_lstL, v_tg1, v_tg2, v_tg3, t_bl, t_int, t_non, s_tup, s_lst, s_scr, isNon, CV.d, isTys, isTy, List.getElem?_cons_zero, List.getElem?_cons_succ, List.set_cons_zero, List.set_cons_succ, put_same, put_put, wipeE, tgSlots, pureSC, List.length_map, List.length_cons, List.length_nil, Bool.or_false, Bool.or_true, Bool.not_true, Bool.not_false, p_ix, p_six, p_len, p_tup, Ext_r, reduceCtorEq, decide_true, decide_false, decide_eq_true_eq, or_true, true_or, or_false, false_or, and_self, true_and, and_true, false_and, and_false, Bool.false_eq_true, Bool.true_eq_false, false_implies, true_implies, implies_true, not_true_eq_false, not_false_eq_true, startE, List.map_cons, List.map_nil, Nat.reduceAdd, Nat.reduceSub, Nat.reduceMul, List.replicate_succ, List.replicate_zero, List.cons_append, List.nil_append, decide_eq_false_iff_not, List.getElem?_map, Option.map_some, p_isL, p_appX, Bool.false_bne, Bool.true_bne, beq_self_eq_true,  e2]
    refine call_pf (d, xs.length - 1) rfl ⟨h4, by show _ ≤ 64; omega⟩ ?_
    try simp only [↓x_var, ↓x_cst, ↓x_glob, ↓x_tup, ↓x_lst, ↓x_bin, ↓x_neg, ↓x_not, ↓x_and, ↓x_or, ↓x_cmp, ↓x_isN, ↓x_ite, ↓x_ix, ↓x_sl, ↓x_call, ↓x_call0, ↓x_blt, ↓x_isi, ↓x_lc, ↓x_nil, ↓x_cons, ↓x_and1, ↓x_and2, ↓x_or1, ↓x_or2, ↓x_ioN, ↓x_ioS, ↓x_seq, ↓x_rng1, ↓x_rng2, ↓x_pop, ↓x_disp, ↓x_rev, revX_tup, x_end, ↓x_snil, ↓x_scons, ↓x_set, ↓x_par, ↓x_par3, ↓x_unp, ↓x_six, ↓x_exp, ↓x_app, ↓x_ret, ↓x_retN, ↓x_pass, ↓x_brk, ↓x_cont, ↓x_never, ↓x_if, ↓x_for, ↓x_while, refX_ref, v_get, v_getO, v_getI, v_lst, v_ift, v_iff, v_ifn, v_ifd, v_ife, v_if0, v_ifb, v_newF, v_newT, v_tup, v_add, v_sub, v_mul, v_fdiv, v_mod, v_pow, v_addT, v_addL, v_mulL, v_lt, v_le, v_gt, v_ge, v_eqI, v_neI, v_eqB, v_neB, v_ixT, v_ixL, v_slT, v_slL, v_slS, v_lenT, v_lenL, v_int, v_abs, v_max2, v_min2, v_gcd, v_tupT, v_tupL, v_lstT, v_lstL, v_tg1, v_tg2, v_tg3, t_bl, t_int, t_non, s_tup, s_lst, s_scr, isNon, CV.d, isTys, isTy, List.getElem?_cons_zero, List.getElem?_cons_succ, List.set_cons_zero, List.set_cons_succ, put_same, put_put, wipeE, tgSlots, pureSC, List.length_map, List.length_cons, List.length_nil, Bool.or_false, Bool.or_true, Bool.not_true, Bool.not_false, p_ix, p_six, p_len, p_tup, Ext_r, reduceCtorEq, decide_true, decide_false, decide_eq_true_eq, or_true, true_or, or_false, false_or, and_self, true_and, and_true, false_and, and_false, Bool.false_eq_true, Bool.true_eq_false, false_implies, true_implies, implies_true, not_true_eq_false, not_false_eq_true, startE, List.map_cons, List.map_nil, Nat.reduceAdd, Nat.reduceSub, Nat.reduceMul, List.replicate_succ, List.replicate_zero, List.cons_append, List.nil_append, decide_eq_false_iff_not, List.getElem?_map, Option.map_some, p_isL, p_appX, Bool.false_bne, Bool.true_bne, beq_self_eq_true]
    have b3 : Bit (64 * 64 + 1) (d ^ (xs.length - 1)) := (h4.pow _).up (by omega)
    have e3 := top_eq n d xs 0 0
    rw [Int.pow_zero, Int.one_mul, Int.zero_add] at e3
    have e4 : (List.range xs.length).foldl (topS xs n d xs.length) 0 = topR n d xs := e3
    rw [e4]
    exact call_pf (topR n d xs, d ^ (xs.length - 1)) rfl ⟨Int.pow_ne_zero h5, b3.up (by decide)⟩ ⟨rfl, .refl⟩
def valS (n d : Int) (s : Int × Int) (x : Int) : Int × Int := (s.1 * n + x * s.2 * d, s.2 * d)
theorem val_eq (n d : Int) : ∀ xs : List Int, xs.reverse.foldl (valS n d) (0, 1) = (d * topR n d xs, d ^ xs.length)
  | [] => by show ((0 : Int), (1 : Int)) = (d * 0, d ^ 0); rw [Int.mul_zero, Int.pow_zero]
  | x :: r => by
    rw [List.reverse_cons, List.foldl_append, val_eq n d r]
    show (d * topR n d r * n + x * d ^ r.length * d, d ^ r.length * d) = (d * (x * d ^ r.length + n * topR n d r), d ^ (r.length + 1))
    rw [Int.pow_succ, Int.mul_add, Int.add_comm, Int.mul_comm (x * d ^ r.length) d, Int.mul_comm n, Int.mul_assoc d]
def sp_value : DSp := pf 3 (fun a : List Int × Int × Int => [tp a.1, .int a.2.1, .int a.2.2]) (fun a => a.1.length ≤ 60 ∧ (∀ x ∈ a.1, Bit 1000 x) ∧ Bit 64 a.2.1 ∧ Bit 64 a.2.2) (fun a => .tup [.int (a.2.2 * topR a.2.1 a.2.2 a.1), .int (a.2.2 ^ a.1.length)])
theorem b__law_value : BodyOk [] [] 6 ir__law_value sp_value := by
  refine body_pf (fun a M _ => .tup (.cons (.int _) (.cons (.int _) .nil))) fun ⟨xs, n, d⟩ M h _ => ?_
  obtain ⟨h1, h2, h3, h4⟩ := h
  dsimp only at h1 h2 h3 h4
  unfold ir__law_value
  try simp only [↓x_var, ↓x_cst, ↓x_glob, ↓x_tup, ↓x_lst, ↓x_bin, ↓x_neg, ↓x_not, ↓x_and, ↓x_or, ↓x_cmp, ↓x_isN, ↓x_ite, ↓x_ix, ↓x_sl, ↓x_call, ↓x_call0, ↓x_blt, ↓x_isi, ↓x_lc, ↓x_nil, ↓x_cons, ↓x_and1, ↓x_and2, ↓x_or1, ↓x_or2, ↓x_ioN, ↓x_ioS, ↓x_seq, ↓x_rng1, ↓x_rng2, ↓x_pop, ↓x_disp, ↓x_rev, revX_tup, x_end, ↓x_snil, ↓x_scons, ↓x_set, ↓x_par, ↓x_par3, ↓x_unp, ↓x_six, ↓x_exp, ↓x_app, ↓x_ret, ↓x_retN, ↓x_pass, ↓x_brk, ↓x_cont, ↓x_never, ↓x_if, ↓x_for, ↓x_while, refX_ref, v_get, v_getO, v_getI, v_lst, v_ift, v_iff, v_ifn, v_ifd, v_ife, v_if0, v_ifb, v_newF, v_newT, v_tup, v_add, v_sub, v_mul, v_fdiv, v_mod, v_pow, v_addT, v_addL, v_mulL, v_lt, v_le, v_gt, v_ge, v_eqI, v_neI, v_eqB, v_neB, v_ixT, v_ixL, v_slT, v_slL, v_slS, v_lenT, v_lenL, v_int, v_abs, v_max2, v_min2, v_gcd, v_tupT, v_tupL, v_lstT, v_lstL, v_tg1, v_tg2, v_tg3, t_bl, t_int, t_non, s_tup, s_lst, s_scr, isNon, CV.d, isTys, isTy, List.getElem?_cons_zero, List.getElem?_cons_succ, List.set_cons_zero, List.set_cons_succ, put_same, put_put, wipeE, tgSlots, pureSC, List.length_map, List.length_cons, List.length_nil, Bool.or_false, Bool.or_true, Bool.not_true, Bool.not_false, p_ix, p_six, p_len, p_tup, Ext_r, reduceCtorEq, decide_true, decide_false, decide_eq_true_eq, or_true, true_or, or_false, false_or, and_self, true_and, and_true, false_and, and_false, Bool.false_eq_true, Bool.true_eq_false, false_implies, true_implies, implies_true, not_true_eq_false, not_false_eq_true, startE, List.map_cons, List.map_nil, Nat.reduceAdd, Nat.reduceSub, Nat.reduceMul, List.replicate_succ, List.replicate_zero, List.cons_append, List.nil_append, decide_eq_false_iff_not, List.getElem?_map, Option.map_some, p_isL, p_appX, Bool.false_bne, Bool.true_bne, beq_self_eq_true]
  refine ⟨by decide, ?_⟩
  refine for_list D.int xs.reverse (fun done ρ M' => M' = M ∧ ∃ s x, s = done.foldl (valS n d) (0, 1) ∧ Bit (2000 + 200 * done.length) s.1 ∧ Bit (1 + 64 * done.length) s.2 ∧ ρ = [some (tp xs), some (.int n), some (.int d), some (.int s.1), some (.int s.2), x]) (by rw [List.map_reverse]) ⟨rfl, (0, 1), none, rfl, Bit0, (show Bit 1 1 from by decide), rfl⟩ ?_ ?_
  · rintro done k rest ρ M' he ⟨rfl, s, x, hs, g1, g2, rfl⟩
    have hl := congrArg List.length he
    rw [List.length_append, List.length_cons, List.length_reverse] at hl
    have hk : Bit 1000 k := h2 k (by rw [← List.mem_reverse, he]; simp)
    try simp only [↓x_var, ↓x_cst, ↓x_glob, ↓x_tup, ↓x_lst, ↓x_bin, ↓x_neg, ↓x_not, ↓x_and, ↓x_or, ↓x_cmp, ↓x_isN, ↓x_ite, ↓x_ix, ↓x_sl, ↓x_call, ↓x_call0, ↓x_blt, ↓x_isi, ↓x_lc, ↓x_nil, ↓x_cons, ↓x_and1, ↓x_and2, ↓x_or1, ↓x_or2, ↓x_ioN, ↓x_ioS, ↓x_seq, ↓x_rng1, ↓x_rng2, ↓x_pop, ↓x_disp, ↓x_rev, revX_tup, x_end, ↓x_snil, ↓x_scons, ↓x_set, ↓x_par, ↓x_par3, ↓x_unp, ↓x_six, ↓x_exp, ↓x_app, ↓x_ret, ↓x_retN, ↓x_pass, ↓x_brk, ↓x_cont, ↓x_never, ↓x_if, ↓x_for, ↓x_while, refX_ref, v_get, v_getO, v_getI, v_lst, v_ift, v_iff, v_ifn, v_ifd, v_ife, v_if0, v_ifb, v_newF, v_newT, v_tup, v_add, v_sub, v_mul, v_fdiv, v_mod, v_pow, v_addT, v_addL, v_mulL, v_lt, v_le, v_gt, v_ge, v_eqI, v_neI, v_eqB, v_neB, v_ixT, v_ixL, v_slT, v_slL, v_slS, v_lenT, v_lenL, v_int, v_abs, v_max2, v_min2, v_gcd, v_tupT, v_tupL, v_lstT, v_lstL, v_tg1, v_tg2, v_tg3, t_bl, t_int, t_non, s_tup, s_lst, s_scr, isNon, CV.d, isTys, isTy, List.getElem?_cons_zero, List.getElem?_cons_succ, List.set_cons_zero, List.set_cons_succ, put_same, put_put, wipeE, tgSlots, pureSC, List.length_map, List.length_cons, List.length_nil, Bool.or_false, Bool.or_true, Bool.not_true, Bool.not_false, p_ix, p_six, p_len, p_tup, Ext_r, reduceCtorEq, decide_true, decide_false, decide_eq_true_eq, or_true, true_or, or_false, false_or, and_self, true_and, and_true, false_and, and_false, Bool.false_eq_true, Bool.true_eq_false, false_implies, true_implies, implies_true, not_true_eq_false, not_false_eq_true, startE, List.map_cons, List.map_nil, Nat.reduceAdd, Nat.reduceSub, Nat.reduceMul, List.replicate_succ, List.replicate_zero, List.cons_append, List.nil_append, decide_eq_false_iff_not, List.getElem?_map, Option.map_some, p_isL, p_appX, Bool.false_bne, Bool.true_bne, beq_self_eq_true]
    have c1 := g1.mul h3
    have c2 := hk.mul g2
    have c3 := c2.mul h4
    refine ⟨mulOk_of' g1 h3 (by omega), mulOk_of' hk g2 (by omega), mulOk_of' c2 h4 (by omega), mulOk_of' g2 h4 (by omega), ?_⟩
    refine ⟨valS n d s k, _, ?_, ?_, ?_, rfl⟩
    · rw [hs, List.foldl_append]; rfl
    · rw [List.length_append]
      show Bit (2000 + 200 * (done.length + 1)) (s.1 * n + k * s.2 * d)
      exact ((c1.up (l := 2000 + 200 * done.length + 64) (by omega)).add (c3.up (by omega))).up (by omega)
    · rw [List.length_append]
      exact (g2.mul h4).up (by show _ ≤ 1 + 64 * (done.length + 1); omega)
  · rintro ρ M' ⟨rfl, s, x, hs, g1, g2, rfl⟩
    rw [val_eq] at hs
    subst hs
    try simp only [↓x_var, ↓x_cst, ↓x_glob, ↓x_tup, ↓x_lst, ↓x_bin, ↓x_neg, ↓x_not, ↓x_and, ↓x_or, ↓x_cmp, ↓x_isN, ↓x_ite, ↓x_ix, ↓x_sl, ↓x_call, ↓x_call0, ↓x_blt, ↓x_isi, ↓x_lc, ↓x_nil, ↓x_cons, ↓x_and1, ↓x_and2, ↓x_or1, ↓x_or2, ↓x_ioN, ↓x_ioS, ↓x_seq, ↓x_rng1, ↓x_rng2, ↓x_pop, ↓x_disp, ↓x_rev, revX_tup, x_end, ↓x_snil, ↓x_scons, ↓x_set, ↓x_par, ↓x_par3, ↓x_unp, ↓x_six, ↓x_exp, ↓x_app, ↓x_ret, ↓x_retN, ↓x_pass, ↓x_brk, ↓x_cont, ↓x_never, ↓x_if, ↓x_for, ↓x_while, refX_ref, v_get, v_getO, v_getI, v_lst, v_ift, v_iff, v_ifn, v_ifd, v_ife, v_if0, v_ifb, v_newF, v_newT, v_tup, v_add, v_sub, v_mul, v_fdiv, v_mod, v_pow, v_addT, v_addL, v_mulL, v_lt, v_le, v_gt, v_ge, v_eqI, v_neI, v_eqB, v_neB, v_ixT, v_ixL, v_slT, v_slL, v_slS, v_lenT, v_lenL, v_int, v_abs, v_max2, v_min2, v_gcd, v_tupT, v_tupL, v_lstT, v_lstL, v_tg1, v_tg2, v_tg3, t_bl, t_int, t_non, s_tup, s_lst, s_scr, isNon, CV.d, isTys, isTy, List.getElem?_cons_zero, List.getElem?_cons_succ, List.set_cons_zero, List.set_cons_succ, put_same, put_put, wipeE, tgSlots, pureSC, List.length_map, List.length_cons, List.length_nil, Bool.or_false, Bool.or_true, Bool.not_true, Bool.not_false, p_ix, p_six, p_len, p_tup, Ext_r, reduceCtorEq, decide_true, decide_false, decide_eq_true_eq, or_true, true_or, or_false, false_or, and_self, true_and, and_true, false_and, and_false, Bool.false_eq_true, Bool.true_eq_false, false_implies, true_implies, implies_true, not_true_eq_false, not_false_eq_true, startE, List.map_cons, List.map_nil, Nat.reduceAdd, Nat.reduceSub, Nat.reduceMul, List.replicate_succ, List.replicate_zero, List.cons_append, List.nil_append, decide_eq_false_iff_not, List.getElem?_map, Option.map_some, p_isL, p_appX, Bool.false_bne, Bool.true_bne, beq_self_eq_true]
    decide
/-! ### is it a polynomial -/
def last0 : Option D → Bool
  | some (.int i) => decide (i = 0)
  | _ => false
def isP : D → Bool
  | .tup xs => xs.all isW && (decide (xs.length = 0) || !last0 xs.getLast?)
  | _ => false
theorem isP_tup {xs : List D} : isP (.tup xs) = (xs.all isW && (decide (xs.length = 0) || !last0 xs.getLast?)) := rfl
def plainU : D → Bool
  | .tup xs => xs.all plainD
  | .ref _ => false | .exn _ _ => false | _ => true
def sp_is : DSp := pf 1 (fun a : D => [a]) (fun a => plainU a = true ∧ ∀ xs, a = .tup xs → xs.length ≤ 500) (fun a => .bl (isP a))
theorem isW_int {d : D} (h : isW d = true) : ∃ i, d = .int i := by
  cases d <;> first | exact ⟨_, rfl⟩ | cases h
theorem last_int {xs : List D} (h : xs.all isW = true) (h0 : xs.length ≠ 0) : ∃ i, xs.getLast? = some (.int i) := by
  have ne : xs ≠ [] := by rintro rfl; exact h0 rfl
  rw [List.getLast?_eq_some_getLast ne]
  obtain ⟨i, e⟩ := isW_int (List.all_eq_true.mp h _ (List.getLast_mem ne))
  exact ⟨i, by rw [e]⟩
theorem b_is_poly : BodyOk [sp_is_whole] [] 2 ir_is_poly sp_is := by
  refine body_pf (fun a M _ => .bl _) fun d M h _ => ?_
  obtain ⟨h1, h2⟩ := h
  unfold ir_is_poly
  cases d with
  | tup xs =>
    have h3 := h2 xs rfl
    try simp only [↓x_var, ↓x_cst, ↓x_glob, ↓x_tup, ↓x_lst, ↓x_bin, ↓x_neg, ↓x_not, ↓x_and, ↓x_or, ↓x_cmp, ↓x_isN, ↓x_ite, ↓x_ix, ↓x_sl, ↓x_call, ↓x_call0, ↓x_blt, ↓x_isi, ↓x_lc, ↓x_nil, ↓x_cons, ↓x_and1, ↓x_and2, ↓x_or1, ↓x_or2, ↓x_ioN, ↓x_ioS, ↓x_seq, ↓x_rng1, ↓x_rng2, ↓x_pop, ↓x_disp, ↓x_rev, revX_tup, x_end, ↓x_snil, ↓x_scons, ↓x_set, ↓x_par, ↓x_par3, ↓x_unp, ↓x_six, ↓x_exp, ↓x_app, ↓x_ret, ↓x_retN, ↓x_pass, ↓x_brk, ↓x_cont, ↓x_never, ↓x_if, ↓x_for, ↓x_while, refX_ref, v_get, v_getO, v_getI, v_lst, v_ift, v_iff, v_ifn, v_ifd, v_ife, v_if0, v_ifb, v_newF, v_newT, v_tup, v_add, v_sub, v_mul, v_fdiv, v_mod, v_pow, v_addT, v_addL, v_mulL, v_lt, v_le, v_gt, v_ge, v_eqI, v_neI, v_eqB, v_neB, v_ixT, v_ixL, v_slT, v_slL, v_slS, v_lenT, v_lenL, v_int, v_abs, v_max2, v_min2, v_gcd, v_tupT, v_tupL, v_lstT, v_lstL, v_tg1, v_tg2, v_tg3, t_bl, t_int, t_non, s_tup, s_lst, s_scr, isNon, CV.d, isTys, isTy, List.getElem?_cons_zero, List.getElem?_cons_succ, List.set_cons_zero, List.set_cons_succ, put_same, put_put, wipeE, tgSlots, pureSC, List.length_map, List.length_cons, List.length_nil, Bool.or_false, Bool.or_true, Bool.not_true, Bool.not_false, p_ix, p_six, p_len, p_tup, Ext_r, reduceCtorEq, decide_true, decide_false, decide_eq_true_eq, or_true, true_or, or_false, false_or, and_self, true_and, and_true, false_and, and_false, Bool.false_eq_true, Bool.true_eq_false, false_implies, true_implies, implies_true, not_true_eq_false, not_false_eq_true, startE, List.map_cons, List.map_nil, Nat.reduceAdd, Nat.reduceSub, Nat.reduceMul, List.replicate_succ, List.replicate_zero, List.cons_append, List.nil_append, decide_eq_false_iff_not, List.getElem?_map, Option.map_some, p_isL, p_appX, Bool.false_bne, Bool.true_bne, beq_self_eq_true]
    refine lc_pure id (fun x => .bl (isW x)) xs (by rw [List.map_id]) (by unfold sizeLine; omega) trivial (fun x hx => ?_) ?_
    · try simp only [↓x_var, ↓x_cst, ↓x_glob, ↓x_tup, ↓x_lst, ↓x_bin, ↓x_neg, ↓x_not, ↓x_and, ↓x_or, ↓x_cmp, ↓x_isN, ↓x_ite, ↓x_ix, ↓x_sl, ↓x_call, ↓x_call0, ↓x_blt, ↓x_isi, ↓x_lc, ↓x_nil, ↓x_cons, ↓x_and1, ↓x_and2, ↓x_or1, ↓x_or2, ↓x_ioN, ↓x_ioS, ↓x_seq, ↓x_rng1, ↓x_rng2, ↓x_pop, ↓x_disp, ↓x_rev, revX_tup, x_end, ↓x_snil, ↓x_scons, ↓x_set, ↓x_par, ↓x_par3, ↓x_unp, ↓x_six, ↓x_exp, ↓x_app, ↓x_ret, ↓x_retN, ↓x_pass, ↓x_brk, ↓x_cont, ↓x_never, ↓x_if, ↓x_for, ↓x_while, refX_ref, v_get, v_getO, v_getI, v_lst, v_ift, v_iff, v_ifn, v_ifd, v_ife, v_if0, v_ifb, v_newF, v_newT, v_tup, v_add, v_sub, v_mul, v_fdiv, v_mod, v_pow, v_addT, v_addL, v_mulL, v_lt, v_le, v_gt, v_ge, v_eqI, v_neI, v_eqB, v_neB, v_ixT, v_ixL, v_slT, v_slL, v_slS, v_lenT, v_lenL, v_int, v_abs, v_max2, v_min2, v_gcd, v_tupT, v_tupL, v_lstT, v_lstL, v_tg1, v_tg2, v_tg3, t_bl, t_int, t_non, s_tup, s_lst, s_scr, isNon, CV.d, isTys, isTy, List.getElem?_cons_zero, List.getElem?_cons_succ, List.set_cons_zero, List.set_cons_succ, put_same, put_put, wipeE, tgSlots, pureSC, List.length_map, List.length_cons, List.length_nil, Bool.or_false, Bool.or_true, Bool.not_true, Bool.not_false, p_ix, p_six, p_len, p_tup, Ext_r, reduceCtorEq, decide_true, decide_false, decide_eq_true_eq, or_true, true_or, or_false, false_or, and_self, true_and, and_true, false_and, and_false, Bool.false_eq_true, Bool.true_eq_false, false_implies, true_implies, implies_true, not_true_eq_false, not_false_eq_true, startE, List.map_cons, List.map_nil, Nat.reduceAdd, Nat.reduceSub, Nat.reduceMul, List.replicate_succ, List.replicate_zero, List.cons_append, List.nil_append, decide_eq_false_iff_not, List.getElem?_map, Option.map_some, p_isL, p_appX, Bool.false_bne, Bool.true_bne, beq_self_eq_true]
      exact call_pf x rfl (List.all_eq_true.mp h1 x hx) ⟨rfl, rfl⟩
    · try simp only [↓x_var, ↓x_cst, ↓x_glob, ↓x_tup, ↓x_lst, ↓x_bin, ↓x_neg, ↓x_not, ↓x_and, ↓x_or, ↓x_cmp, ↓x_isN, ↓x_ite, ↓x_ix, ↓x_sl, ↓x_call, ↓x_call0, ↓x_blt, ↓x_isi, ↓x_lc, ↓x_nil, ↓x_cons, ↓x_and1, ↓x_and2, ↓x_or1, ↓x_or2, ↓x_ioN, ↓x_ioS, ↓x_seq, ↓x_rng1, ↓x_rng2, ↓x_pop, ↓x_disp, ↓x_rev, revX_tup, x_end, ↓x_snil, ↓x_scons, ↓x_set, ↓x_par, ↓x_par3, ↓x_unp, ↓x_six, ↓x_exp, ↓x_app, ↓x_ret, ↓x_retN, ↓x_pass, ↓x_brk, ↓x_cont, ↓x_never, ↓x_if, ↓x_for, ↓x_while, refX_ref, v_get, v_getO, v_getI, v_lst, v_ift, v_iff, v_ifn, v_ifd, v_ife, v_if0, v_ifb, v_newF, v_newT, v_tup, v_add, v_sub, v_mul, v_fdiv, v_mod, v_pow, v_addT, v_addL, v_mulL, v_lt, v_le, v_gt, v_ge, v_eqI, v_neI, v_eqB, v_neB, v_ixT, v_ixL, v_slT, v_slL, v_slS, v_lenT, v_lenL, v_int, v_abs, v_max2, v_min2, v_gcd, v_tupT, v_tupL, v_lstT, v_lstL, v_tg1, v_tg2, v_tg3, t_bl, t_int, t_non, s_tup, s_lst, s_scr, isNon, CV.d, isTys, isTy, List.getElem?_cons_zero, List.getElem?_cons_succ, List.set_cons_zero, List.set_cons_succ, put_same, put_put, wipeE, tgSlots, pureSC, List.length_map, List.length_cons, List.length_nil, Bool.or_false, Bool.or_true, Bool.not_true, Bool.not_false, p_ix, p_six, p_len, p_tup, Ext_r, reduceCtorEq, decide_true, decide_false, decide_eq_true_eq, or_true, true_or, or_false, false_or, and_self, true_and, and_true, false_and, and_false, Bool.false_eq_true, Bool.true_eq_false, false_implies, true_implies, implies_true, not_true_eq_false, not_false_eq_true, startE, List.map_cons, List.map_nil, Nat.reduceAdd, Nat.reduceSub, Nat.reduceMul, List.replicate_succ, List.replicate_zero, List.cons_append, List.nil_append, decide_eq_false_iff_not, List.getElem?_map, Option.map_some, p_isL, p_appX, Bool.false_bne, Bool.true_bne, beq_self_eq_true]
      refine v_all (bs := xs.map isW) (by rw [List.map_map]; rfl) ?_
      try simp only [↓x_var, ↓x_cst, ↓x_glob, ↓x_tup, ↓x_lst, ↓x_bin, ↓x_neg, ↓x_not, ↓x_and, ↓x_or, ↓x_cmp, ↓x_isN, ↓x_ite, ↓x_ix, ↓x_sl, ↓x_call, ↓x_call0, ↓x_blt, ↓x_isi, ↓x_lc, ↓x_nil, ↓x_cons, ↓x_and1, ↓x_and2, ↓x_or1, ↓x_or2, ↓x_ioN, ↓x_ioS, ↓x_seq, ↓x_rng1, ↓x_rng2, ↓x_pop, ↓x_disp, ↓x_rev, revX_tup, x_end, ↓x_snil, ↓x_scons, ↓x_set, ↓x_par, ↓x_par3, ↓x_unp, ↓x_six, ↓x_exp, ↓x_app, ↓x_ret, ↓x_retN, ↓x_pass, ↓x_brk, ↓x_cont, ↓x_never, ↓x_if, ↓x_for, ↓x_while, refX_ref, v_get, v_getO, v_getI, v_lst, v_ift, v_iff, v_ifn, v_ifd, v_ife, v_if0, v_ifb, v_newF, v_newT, v_tup, v_add, v_sub, v_mul, v_fdiv, v_mod, v_pow, v_addT, v_addL, v_mulL, v_lt, v_le, v_gt, v_ge, v_eqI, v_neI, v_eqB, v_neB, v_ixT, v_ixL, v_slT, v_slL, v_slS, v_lenT, v_lenL, v_int, v_abs, v_max2, v_min2, v_gcd, v_tupT, v_tupL, v_lstT, v_lstL, v_tg1, v_tg2, v_tg3, t_bl, t_int, t_non, s_tup, s_lst, s_scr, isNon, CV.d, isTys, isTy, List.getElem?_cons_zero, List.getElem?_cons_succ, List.set_cons_zero, List.set_cons_succ, put_same, put_put, wipeE, tgSlots, pureSC, List.length_map, List.length_cons, List.length_nil, Bool.or_false, Bool.or_true, Bool.not_true, Bool.not_false, p_ix, p_six, p_len, p_tup, Ext_r, reduceCtorEq, decide_true, decide_false, decide_eq_true_eq, or_true, true_or, or_false, false_or, and_self, true_and, and_true, false_and, and_false, Bool.false_eq_true, Bool.true_eq_false, false_implies, true_implies, implies_true, not_true_eq_false, not_false_eq_true, startE, List.map_cons, List.map_nil, Nat.reduceAdd, Nat.reduceSub, Nat.reduceMul, List.replicate_succ, List.replicate_zero, List.cons_append, List.nil_append, decide_eq_false_iff_not, List.getElem?_map, Option.map_some, p_isL, p_appX, Bool.false_bne, Bool.true_bne, beq_self_eq_true]
      have ew : (xs.map isW).all id = xs.all isW := by rw [List.all_map]; rfl
      rw [ew]
      refine ⟨fun z => ?_, fun z => ⟨fun z0 => ?_, fun z0 => ?_⟩⟩
      · have w : xs.all isW = false := by simpa using z
        rw [isP_tup, w]; rfl
      · have w : xs.all isW = true := by simpa using z
        rw [isP_tup, w, decide_eq_true (show xs.length = 0 by omega), decide_eq_true z0]; rfl
      · have w : xs.all isW = true := by simpa using z
        obtain ⟨i, e⟩ := last_int w (by omega)
        rw [atI_m1, e]
        try simp only [↓x_var, ↓x_cst, ↓x_glob, ↓x_tup, ↓x_lst, ↓x_bin, ↓x_neg, ↓x_not, ↓x_and, ↓x_or, ↓x_cmp, ↓x_isN, ↓x_ite, ↓x_ix, ↓x_sl, ↓x_call, ↓x_call0, ↓x_blt, ↓x_isi, ↓x_lc, ↓x_nil, ↓x_cons, ↓x_and1, ↓x_and2, ↓x_or1, ↓x_or2, ↓x_ioN, ↓x_ioS, ↓x_seq, ↓x_rng1, ↓x_rng2, ↓x_pop, ↓x_disp, ↓x_rev, revX_tup, x_end, ↓x_snil, ↓x_scons, ↓x_set, ↓x_par, ↓x_par3, ↓x_unp, ↓x_six, ↓x_exp, ↓x_app, ↓x_ret, ↓x_retN, ↓x_pass, ↓x_brk, ↓x_cont, ↓x_never, ↓x_if, ↓x_for, ↓x_while, refX_ref, v_get, v_getO, v_getI, v_lst, v_ift, v_iff, v_ifn, v_ifd, v_ife, v_if0, v_ifb, v_newF, v_newT, v_tup, v_add, v_sub, v_mul, v_fdiv, v_mod, v_pow, v_addT, v_addL, v_mulL, v_lt, v_le, v_gt, v_ge, v_eqI, v_neI, v_eqB, v_neB, v_ixT, v_ixL, v_slT, v_slL, v_slS, v_lenT, v_lenL, v_int, v_abs, v_max2, v_min2, v_gcd, v_tupT, v_tupL, v_lstT, v_lstL, v_tg1, v_tg2, v_tg3, t_bl, t_int, t_non, s_tup, s_lst, s_scr, isNon, CV.d, isTys, isTy, List.getElem?_cons_zero, List.getElem?_cons_succ, List.set_cons_zero, List.set_cons_succ, put_same, put_put, wipeE, tgSlots, pureSC, List.length_map, List.length_cons, List.length_nil, Bool.or_false, Bool.or_true, Bool.not_true, Bool.not_false, p_ix, p_six, p_len, p_tup, Ext_r, reduceCtorEq, decide_true, decide_false, decide_eq_true_eq, or_true, true_or, or_false, false_or, and_self, true_and, and_true, false_and, and_false, Bool.false_eq_true, Bool.true_eq_false, false_implies, true_implies, implies_true, not_true_eq_false, not_false_eq_true, startE, List.map_cons, List.map_nil, Nat.reduceAdd, Nat.reduceSub, Nat.reduceMul, List.replicate_succ, List.replicate_zero, List.cons_append, List.nil_append, decide_eq_false_iff_not, List.getElem?_map, Option.map_some, p_isL, p_appX, Bool.false_bne, Bool.true_bne, beq_self_eq_true,  isP_tup]
        rw [w, e, decide_eq_false (show ¬ xs.length = 0 by omega)]
        rfl
  | ref a => cases h1
  | exn c a => cases h1
  | _ => try simp only [↓x_var, ↓x_cst, ↓x_glob, ↓x_tup, ↓x_lst, ↓x_bin, ↓x_neg, ↓x_not, ↓x_and, ↓x_or, ↓x_cmp, ↓x_isN, ↓x_ite, ↓x_ix, ↓x_sl, ↓x_call, ↓x_call0, ↓x_blt, ↓x_isi, ↓x_lc, ↓x_nil, ↓x_cons, ↓x_and1, ↓x_and2, ↓x_or1, ↓x_or2, ↓x_ioN, ↓x_ioS, ↓x_seq, ↓x_rng1, ↓x_rng2, ↓x_pop, ↓x_disp, ↓x_rev, revX_tup, x_end, ↓x_snil, ↓x_scons, ↓x_set, ↓x_par, ↓x_par3, ↓x_unp, ↓x_six, ↓x_exp, ↓x_app, ↓x_ret, ↓x_retN, ↓x_pass, ↓x_brk, ↓x_cont, ↓x_never, ↓x_if, ↓x_for, ↓x_while, refX_ref, v_get, v_getO, v_getI, v_lst, v_ift, v_iff, v_ifn, v_ifd, v_ife, v_if0, v_ifb, v_newF, v_newT, v_tup, v_add, v_sub, v_mul, v_fdiv, v_mod, v_pow, v_addT, v_addL, v_mulL, v_lt, v_le, v_gt, v_ge, v_eqI, v_neI, v_eqB, v_neB, v_ixT, v_ixL, v_slT, v_slL, v_slS, v_lenT, v_lenL, v_int, v_abs, v_max2, v_min2, v_gcd, v_tupT, v_tupL, v_lstT, v_lstL, v_tg1, v_tg2, v_tg3, t_bl, t_int, t_non, s_tup, s_lst, s_scr, isNon, CV.d, isTys, isTy, List.getElem?_cons_zero, List.getElem?_cons_succ, List.set_cons_zero, List.set_cons_succ, put_same, put_put, wipeE, tgSlots, pureSC, List.length_map, List.length_cons, List.length_nil, Bool.or_false, Bool.or_true, Bool.not_true, Bool.not_false, p_ix, p_six, p_len, p_tup, Ext_r, reduceCtorEq, decide_true, decide_false, decide_eq_true_eq, or_true, true_or, or_false, false_or, and_self, true_and, and_true, false_and, and_false, Bool.false_eq_true, Bool.true_eq_false, false_implies, true_implies, implies_true, not_true_eq_false, not_false_eq_true, startE, List.map_cons, List.map_nil, Nat.reduceAdd, Nat.reduceSub, Nat.reduceMul, List.replicate_succ, List.replicate_zero, List.cons_append, List.nil_append, decide_eq_false_iff_not, List.getElem?_map, Option.map_some, p_isL, p_appX, Bool.false_bne, Bool.true_bne, beq_self_eq_true,  isP]
theorem b__law_is : BodyOk [] [] 2 ir__law_is sp_is := by
  refine body_pf (fun a M _ => .bl _) fun d M h _ => ?_
  obtain ⟨h1, h2⟩ := h
  unfold ir__law_is
  cases d with
  | tup xs =>
    have h3 := h2 xs rfl
    try simp only [↓x_var, ↓x_cst, ↓x_glob, ↓x_tup, ↓x_lst, ↓x_bin, ↓x_neg, ↓x_not, ↓x_and, ↓x_or, ↓x_cmp, ↓x_isN, ↓x_ite, ↓x_ix, ↓x_sl, ↓x_call, ↓x_call0, ↓x_blt, ↓x_isi, ↓x_lc, ↓x_nil, ↓x_cons, ↓x_and1, ↓x_and2, ↓x_or1, ↓x_or2, ↓x_ioN, ↓x_ioS, ↓x_seq, ↓x_rng1, ↓x_rng2, ↓x_pop, ↓x_disp, ↓x_rev, revX_tup, x_end, ↓x_snil, ↓x_scons, ↓x_set, ↓x_par, ↓x_par3, ↓x_unp, ↓x_six, ↓x_exp, ↓x_app, ↓x_ret, ↓x_retN, ↓x_pass, ↓x_brk, ↓x_cont, ↓x_never, ↓x_if, ↓x_for, ↓x_while, refX_ref, v_get, v_getO, v_getI, v_lst, v_ift, v_iff, v_ifn, v_ifd, v_ife, v_if0, v_ifb, v_newF, v_newT, v_tup, v_add, v_sub, v_mul, v_fdiv, v_mod, v_pow, v_addT, v_addL, v_mulL, v_lt, v_le, v_gt, v_ge, v_eqI, v_neI, v_eqB, v_neB, v_ixT, v_ixL, v_slT, v_slL, v_slS, v_lenT, v_lenL, v_int, v_abs, v_max2, v_min2, v_gcd, v_tupT, v_tupL, v_lstT, v_lstL, v_tg1, v_tg2, v_tg3, t_bl, t_int, t_non, s_tup, s_lst, s_scr, isNon, CV.d, isTys, isTy, List.getElem?_cons_zero, List.getElem?_cons_succ, List.set_cons_zero, List.set_cons_succ, put_same, put_put, wipeE, tgSlots, pureSC, List.length_map, List.length_cons, List.length_nil, Bool.or_false, Bool.or_true, Bool.not_true, Bool.not_false, p_ix, p_six, p_len, p_tup, Ext_r, reduceCtorEq, decide_true, decide_false, decide_eq_true_eq, or_true, true_or, or_false, false_or, and_self, true_and, and_true, false_and, and_false, Bool.false_eq_true, Bool.true_eq_false, false_implies, true_implies, implies_true, not_true_eq_false, not_false_eq_true, startE, List.map_cons, List.map_nil, Nat.reduceAdd, Nat.reduceSub, Nat.reduceMul, List.replicate_succ, List.replicate_zero, List.cons_append, List.nil_append, decide_eq_false_iff_not, List.getElem?_map, Option.map_some, p_isL, p_appX, Bool.false_bne, Bool.true_bne, beq_self_eq_true]
    refine for_list id xs (fun done ρ M' => M' = M ∧ ∃ x, ρ = [some (.tup xs), x] ∧ done.all isW = true) (by rw [List.map_id]) ⟨rfl, none, rfl, rfl⟩ ?_ ?_
    · rintro done a rest ρ M' he ⟨rfl, x, rfl, hd⟩
      have ha : plainD a = true := List.all_eq_true.mp h1 a (by rw [he]; simp)
      cases a <;> simp only [plainD, Bool.false_eq_true] at ha <;> try simp only [↓x_var, ↓x_cst, ↓x_glob, ↓x_tup, ↓x_lst, ↓x_bin, ↓x_neg, ↓x_not, ↓x_and, ↓x_or, ↓x_cmp, ↓x_isN, ↓x_ite, ↓x_ix, ↓x_sl, ↓x_call, ↓x_call0, ↓x_blt, ↓x_isi, ↓x_lc, ↓x_nil, ↓x_cons, ↓x_and1, ↓x_and2, ↓x_or1, ↓x_or2, ↓x_ioN, ↓x_ioS, ↓x_seq, ↓x_rng1, ↓x_rng2, ↓x_pop, ↓x_disp, ↓x_rev, revX_tup, x_end, ↓x_snil, ↓x_scons, ↓x_set, ↓x_par, ↓x_par3, ↓x_unp, ↓x_six, ↓x_exp, ↓x_app, ↓x_ret, ↓x_retN, ↓x_pass, ↓x_brk, ↓x_cont, ↓x_never, ↓x_if, ↓x_for, ↓x_while, refX_ref, v_get, v_getO, v_getI, v_lst, v_ift, v_iff, v_ifn, v_ifd, v_ife, v_if0, v_ifb, v_newF, v_newT, v_tup, v_add, v_sub, v_mul, v_fdiv, v_mod, v_pow, v_addT, v_addL, v_mulL, v_lt, v_le, v_gt, v_ge, v_eqI, v_neI, v_eqB, v_neB, v_ixT, v_ixL, v_slT, v_slL, v_slS, v_lenT, v_lenL, v_int, v_abs, v_max2, v_min2, v_gcd, v_tupT, v_tupL, v_lstT, v_lstL, v_tg1, v_tg2, v_tg3, t_bl, t_int, t_non, s_tup, s_lst, s_scr, isNon, CV.d, isTys, isTy, List.getElem?_cons_zero, List.getElem?_cons_succ, List.set_cons_zero, List.set_cons_succ, put_same, put_put, wipeE, tgSlots, pureSC, List.length_map, List.length_cons, List.length_nil, Bool.or_false, Bool.or_true, Bool.not_true, Bool.not_false, p_ix, p_six, p_len, p_tup, Ext_r, reduceCtorEq, decide_true, decide_false, decide_eq_true_eq, or_true, true_or, or_false, false_or, and_self, true_and, and_true, false_and, and_false, Bool.false_eq_true, Bool.true_eq_false, false_implies, true_implies, implies_true, not_true_eq_false, not_false_eq_true, startE, List.map_cons, List.map_nil, Nat.reduceAdd, Nat.reduceSub, Nat.reduceMul, List.replicate_succ, List.replicate_zero, List.cons_append, List.nil_append, decide_eq_false_iff_not, List.getElem?_map, Option.map_some, p_isL, p_appX, Bool.false_bne, Bool.true_bne, beq_self_eq_true,  id]
      case int i => exact ⟨_, rfl, by rw [List.all_append, hd]; rfl⟩
      all_goals (rw [isP_tup, he, List.all_append]; simp [isW])
    · rintro ρ M' ⟨rfl, x, rfl, hd⟩
      try simp only [↓x_var, ↓x_cst, ↓x_glob, ↓x_tup, ↓x_lst, ↓x_bin, ↓x_neg, ↓x_not, ↓x_and, ↓x_or, ↓x_cmp, ↓x_isN, ↓x_ite, ↓x_ix, ↓x_sl, ↓x_call, ↓x_call0, ↓x_blt, ↓x_isi, ↓x_lc, ↓x_nil, ↓x_cons, ↓x_and1, ↓x_and2, ↓x_or1, ↓x_or2, ↓x_ioN, ↓x_ioS, ↓x_seq, ↓x_rng1, ↓x_rng2, ↓x_pop, ↓x_disp, ↓x_rev, revX_tup, x_end, ↓x_snil, ↓x_scons, ↓x_set, ↓x_par, ↓x_par3, ↓x_unp, ↓x_six, ↓x_exp, ↓x_app, ↓x_ret, ↓x_retN, ↓x_pass, ↓x_brk, ↓x_cont, ↓x_never, ↓x_if, ↓x_for, ↓x_while, refX_ref, v_get, v_getO, v_getI, v_lst, v_ift, v_iff, v_ifn, v_ifd, v_ife, v_if0, v_ifb, v_newF, v_newT, v_tup, v_add, v_sub, v_mul, v_fdiv, v_mod, v_pow, v_addT, v_addL, v_mulL, v_lt, v_le, v_gt, v_ge, v_eqI, v_neI, v_eqB, v_neB, v_ixT, v_ixL, v_slT, v_slL, v_slS, v_lenT, v_lenL, v_int, v_abs, v_max2, v_min2, v_gcd, v_tupT, v_tupL, v_lstT, v_lstL, v_tg1, v_tg2, v_tg3, t_bl, t_int, t_non, s_tup, s_lst, s_scr, isNon, CV.d, isTys, isTy, List.getElem?_cons_zero, List.getElem?_cons_succ, List.set_cons_zero, List.set_cons_succ, put_same, put_put, wipeE, tgSlots, pureSC, List.length_map, List.length_cons, List.length_nil, Bool.or_false, Bool.or_true, Bool.not_true, Bool.not_false, p_ix, p_six, p_len, p_tup, Ext_r, reduceCtorEq, decide_true, decide_false, decide_eq_true_eq, or_true, true_or, or_false, false_or, and_self, true_and, and_true, false_and, and_false, Bool.false_eq_true, Bool.true_eq_false, false_implies, true_implies, implies_true, not_true_eq_false, not_false_eq_true, startE, List.map_cons, List.map_nil, Nat.reduceAdd, Nat.reduceSub, Nat.reduceMul, List.replicate_succ, List.replicate_zero, List.cons_append, List.nil_append, decide_eq_false_iff_not, List.getElem?_map, Option.map_some, p_isL, p_appX, Bool.false_bne, Bool.true_bne, beq_self_eq_true,  atI_m1]
      refine ⟨fun z0 => ?_, fun z0 => ?_⟩
      · rw [isP_tup, hd, decide_eq_true (show xs.length = 0 by omega), decide_eq_true z0]; rfl
      · obtain ⟨i, e⟩ := last_int hd (by omega)
        rw [e]
        try simp only [↓x_var, ↓x_cst, ↓x_glob, ↓x_tup, ↓x_lst, ↓x_bin, ↓x_neg, ↓x_not, ↓x_and, ↓x_or, ↓x_cmp, ↓x_isN, ↓x_ite, ↓x_ix, ↓x_sl, ↓x_call, ↓x_call0, ↓x_blt, ↓x_isi, ↓x_lc, ↓x_nil, ↓x_cons, ↓x_and1, ↓x_and2, ↓x_or1, ↓x_or2, ↓x_ioN, ↓x_ioS, ↓x_seq, ↓x_rng1, ↓x_rng2, ↓x_pop, ↓x_disp, ↓x_rev, revX_tup, x_end, ↓x_snil, ↓x_scons, ↓x_set, ↓x_par, ↓x_par3, ↓x_unp, ↓x_six, ↓x_exp, ↓x_app, ↓x_ret, ↓x_retN, ↓x_pass, ↓x_brk, ↓x_cont, ↓x_never, ↓x_if, ↓x_for, ↓x_while, refX_ref, v_get, v_getO, v_getI, v_lst, v_ift, v_iff, v_ifn, v_ifd, v_ife, v_if0, v_ifb, v_newF, v_newT, v_tup, v_add, v_sub, v_mul, v_fdiv, v_mod, v_pow, v_addT, v_addL, v_mulL, v_lt, v_le, v_gt, v_ge, v_eqI, v_neI, v_eqB, v_neB, v_ixT, v_ixL, v_slT, v_slL, v_slS, v_lenT, v_lenL, v_int, v_abs, v_max2, v_min2, v_gcd, v_tupT, v_tupL, v_lstT, v_lstL, v_tg1, v_tg2, v_tg3, t_bl, t_int, t_non, s_tup, s_lst, s_scr, isNon, CV.d, isTys, isTy, List.getElem?_cons_zero, List.getElem?_cons_succ, List.set_cons_zero, List.set_cons_succ, put_same, put_put, wipeE, tgSlots, pureSC, List.length_map, List.length_cons, List.length_nil, Bool.or_false, Bool.or_true, Bool.not_true, Bool.not_false, p_ix, p_six, p_len, p_tup, Ext_r, reduceCtorEq, decide_true, decide_false, decide_eq_true_eq, or_true, true_or, or_false, false_or, and_self, true_and, and_true, false_and, and_false, Bool.false_eq_true, Bool.true_eq_false, false_implies, true_implies, implies_true, not_true_eq_false, not_false_eq_true, startE, List.map_cons, List.map_nil, Nat.reduceAdd, Nat.reduceSub, Nat.reduceMul, List.replicate_succ, List.replicate_zero, List.cons_append, List.nil_append, decide_eq_false_iff_not, List.getElem?_map, Option.map_some, p_isL, p_appX, Bool.false_bne, Bool.true_bne, beq_self_eq_true,  isP_tup]
        rw [hd, e, decide_eq_false (show ¬ xs.length = 0 by omega)]
        rfl
  | ref a => cases h1
  | exn c a => cases h1
  | _ => try simp only [↓x_var, ↓x_cst, ↓x_glob, ↓x_tup, ↓x_lst, ↓x_bin, ↓x_neg, ↓x_not, ↓x_and, ↓x_or, ↓x_cmp, ↓x_isN, ↓x_ite, ↓x_ix, ↓x_sl, ↓x_call, ↓x_call0, ↓x_blt, ↓x_isi, ↓x_lc, ↓x_nil, ↓x_cons, ↓x_and1, ↓x_and2, ↓x_or1, ↓x_or2, ↓x_ioN, ↓x_ioS, ↓x_seq, ↓x_rng1, ↓x_rng2, ↓x_pop, ↓x_disp, ↓x_rev, revX_tup, x_end, ↓x_snil, ↓x_scons, ↓x_set, ↓x_par, ↓x_par3, ↓x_unp, ↓x_six, ↓x_exp, ↓x_app, ↓x_ret, ↓x_retN, ↓x_pass, ↓x_brk, ↓x_cont, ↓x_never, ↓x_if, ↓x_for, ↓x_while, refX_ref, v_get, v_getO, v_getI, v_lst, v_ift, v_iff, v_ifn, v_ifd, v_ife, v_if0, v_ifb, v_newF, v_newT, v_tup, v_add, v_sub, v_mul, v_fdiv, v_mod, v_pow, v_addT, v_addL, v_mulL, v_lt, v_le, v_gt, v_ge, v_eqI, v_neI, v_eqB, v_neB, v_ixT, v_ixL, v_slT, v_slL, v_slS, v_lenT, v_lenL, v_int, v_abs, v_max2, v_min2, v_gcd, v_tupT, v_tupL, v_lstT, v_lstL, v_tg1, v_tg2, v_tg3, t_bl, t_int, t_non, s_tup, s_lst, s_scr, isNon, CV.d, isTys, isTy, List.getElem?_cons_zero, List.getElem?_cons_succ, List.set_cons_zero, List.set_cons_succ, put_same, put_put, wipeE, tgSlots, pureSC, List.length_map, List.length_cons, List.length_nil, Bool.or_false, Bool.or_true, Bool.not_true, Bool.not_false, p_ix, p_six, p_len, p_tup, Ext_r, reduceCtorEq, decide_true, decide_false, decide_eq_true_eq, or_true, true_or, or_false, false_or, and_self, true_and, and_true, false_and, and_false, Bool.false_eq_true, Bool.true_eq_false, false_implies, true_implies, implies_true, not_true_eq_false, not_false_eq_true, startE, List.map_cons, List.map_nil, Nat.reduceAdd, Nat.reduceSub, Nat.reduceMul, List.replicate_succ, List.replicate_zero, List.cons_append, List.nil_append, decide_eq_false_iff_not, List.getElem?_map, Option.map_some, p_isL, p_appX, Bool.false_bne, Bool.true_bne, beq_self_eq_true,  isP]
end DL
set_option Elab.async false
set_option linter.all false
set_option maxRecDepth 100000
set_option maxHeartbeats 4000000
set_option exponentiation.threshold 100000
namespace DL
open PySem PySem.Spec PyProof.Rows L2
/-! ### draws -/
def sp_next : DSp where
  ar := 2
  wp := fun ds M Q _ => ∃ a o b, ds = [.ref a, .int b] ∧ M a = some o ∧ Sta o ∧ 0 < b ∧ ∀ r o', Sta o' → 0 ≤ r → r < b → Q (.int r) (put M a o')
  mono := fun hQ _ ⟨a, o, b, h1, h2, h3, h4, h5⟩ => ⟨a, o, b, h1, h2, h3, h4, fun r o' a b c => hQ _ _ (h5 r o' a b c)⟩
  len := fun ⟨a, o, b, h, _⟩ => by rw [h]; rfl
def sp_pick : DSp where
  ar := 2
  wp := fun ds M Q _ => ∃ a o xs, ds = [.ref a, .lst xs] ∧ M a = some o ∧ Sta o ∧ 0 < xs.length ∧ ∀ x o', x ∈ xs → Sta o' → Q x (put M a o')
  mono := fun hQ _ ⟨a, o, b, h1, h2, h3, h4, h5⟩ => ⟨a, o, b, h1, h2, h3, h4, fun r o' a b => hQ _ _ (h5 r o' a b)⟩
  len := fun ⟨a, o, b, h, _⟩ => by rw [h]; rfl
def sp_poly : DSp where
  ar := 1
  wp := fun ds M Q _ => ∃ a o, ds = [.ref a] ∧ M a = some o ∧ Sta o ∧ ∀ xs o', Sta o' → xs.length ≤ 8 → (∀ x ∈ xs, Bit 20 x) → Trd xs → Q (tp xs) (put M a o')
  mono := fun hQ _ ⟨a, o, h1, h2, h3, h5⟩ => ⟨a, o, h1, h2, h3, fun r o' a b c d => hQ _ _ (h5 r o' a b c d)⟩
  len := fun ⟨a, o, h, _⟩ => by rw [h]; rfl
def sp_draws : DSp where
  ar := 1
  wp := fun ds M Q _ => ∃ cs : List Int, ds = [li cs] ∧ 0 < cs.length ∧ cs.length ≤ 64 ∧ ∀ a o, M a = none → Sta o → Q (.ref a) (put M a o)
  mono := fun hQ _ ⟨cs, h1, h2, h3, h5⟩ => ⟨cs, h1, h2, h3, fun a o b c => hQ _ _ (h5 a o b c)⟩
  len := fun ⟨cs, h, _⟩ => by rw [h]; rfl
section
variable {M : Mem} {Q : D → Mem → Prop} {E : Exn → Mem → Prop} {a : Addr} {o : MO}
theorem call_next {b : Int} (hS : Sta o) (hb : 0 < b) (k : ∀ r o', Sta o' → 0 ≤ r → r < b → Q (.int r) (put M a o')) : callV (some sp_next) [.ref a, .int b] (put M a o) Q E :=
  ⟨_, rfl, a, o, b, rfl, put_same, hS, hb, fun r o' h1 h2 h3 => by rw [put_put]; exact k r o' h1 h2 h3⟩
theorem call_pick {xs : List D} (hS : Sta o) (hb : 0 < xs.length) (k : ∀ x o', x ∈ xs → Sta o' → Q x (put M a o')) : callV (some sp_pick) [.ref a, .lst xs] (put M a o) Q E :=
  ⟨_, rfl, a, o, xs, rfl, put_same, hS, hb, fun r o' h1 h2 => by rw [put_put]; exact k r o' h1 h2⟩
theorem call_poly (hS : Sta o) (k : ∀ xs o', Sta o' → xs.length ≤ 8 → (∀ x ∈ xs, Bit 20 x) → Trd xs → Q (tp xs) (put M a o')) : callV (some sp_poly) [.ref a] (put M a o) Q E :=
  ⟨_, rfl, a, o, rfl, put_same, hS, fun r o' h1 h2 h3 h4 => by rw [put_put]; exact k r o' h1 h2 h3 h4⟩
end
def anySC (R : D → Mem → Prop) : SC where
  nx := fun _ _ => False
  rt := R
  bk := fun _ _ => False
  ct := fun _ _ => False
theorem body_any {Γ : List DSp} {gs : List D} {ir : ISs} {ρ : Env} {M : Mem} {Q : D → Mem → Prop} {E : Exn → Mem → Prop} (R : D → Mem → Prop) (h : seqX Γ gs ir (anySC R) noE ρ M) (k : ∀ d M', R d M' → Drop M M' d Q) : sSs Γ gs ir ρ M (fnSC M Q) (fun x M' => DropX M M' x E) :=
  sSs_mono (C := anySC R) (E := noE) ir ⟨fun _ _ z => False.elim z, k, fun _ _ z => False.elim z, fun _ _ z => False.elim z⟩ (fun _ _ z => z.elim) h
theorem b__law_next : BodyOk [] [] 3 ir__law_next sp_next := by
  rintro ds M Q E c cs ⟨a, o, b, rfl, hM, ⟨ns, t, rfl, ht, hn, hn2⟩, hb, q⟩
  refine body_any (fun d M' => ∃ r, d = .int r ∧ 0 ≤ r ∧ r < b ∧ M' = put M a (St0 ns (t + 1))) ?_ ?_
  · rw [← put_self hM]
    unfold ir__law_next
    have h1 : 0 ≤ t.fmod ns.length := Int.fmod_nonneg_of_pos _ (by omega)
    have h2 : t.fmod ns.length < ns.length := Int.fmod_lt_of_pos _ (by omega)
    have e1 : ns[(t.fmod ns.length).toNat]? = some (ns[(t.fmod ns.length).toNat]'(by omega)) := List.getElem?_eq_getElem (by omega)
    try simp only [↓x_var, ↓x_cst, ↓x_glob, ↓x_tup, ↓x_lst, ↓x_bin, ↓x_neg, ↓x_not, ↓x_and, ↓x_or, ↓x_cmp, ↓x_isN, ↓x_ite, ↓x_ix, ↓x_sl, ↓x_call, ↓x_call0, ↓x_blt, ↓x_isi, ↓x_lc, ↓x_nil, ↓x_cons, ↓x_and1, ↓x_and2, ↓x_or1, ↓x_or2, ↓x_ioN, ↓x_ioS, ↓x_seq, ↓x_rng1, ↓x_rng2, ↓x_pop, ↓x_disp, ↓x_rev, revX_tup, x_end, ↓x_snil, ↓x_scons, ↓x_set, ↓x_par, ↓x_par3, ↓x_unp, ↓x_six, ↓x_exp, ↓x_app, ↓x_ret, ↓x_retN, ↓x_pass, ↓x_brk, ↓x_cont, ↓x_never, ↓x_if, ↓x_for, ↓x_while, refX_ref, v_get, v_getO, v_getI, v_lst, v_ift, v_iff, v_ifn, v_ifd, v_ife, v_if0, v_ifb, v_newF, v_newT, v_tup, v_add, v_sub, v_mul, v_fdiv, v_mod, v_pow, v_addT, v_addL, v_mulL, v_lt, v_le, v_gt, v_ge, v_eqI, v_neI, v_eqB, v_neB, v_ixT, v_ixL, v_slT, v_slL, v_slS, v_lenT, v_lenL, v_int, v_abs, v_max2, v_min2, v_gcd, v_tupT, v_tupL, v_lstT, v_lstL, v_tg1, v_tg2, v_tg3, t_bl, t_int, t_non, s_tup, s_lst, s_scr, isNon, CV.d, isTys, isTy, List.getElem?_cons_zero, List.getElem?_cons_succ, List.set_cons_zero, List.set_cons_succ, put_same, put_put, wipeE, tgSlots, pureSC, List.length_map, List.length_cons, List.length_nil, Bool.or_false, Bool.or_true, Bool.not_true, Bool.not_false, p_ix, p_six, p_len, p_tup, Ext_r, reduceCtorEq, decide_true, decide_false, decide_eq_true_eq, or_true, true_or, or_false, false_or, and_self, true_and, and_true, false_and, and_false, Bool.false_eq_true, Bool.true_eq_false, false_implies, true_implies, implies_true, not_true_eq_false, not_false_eq_true, startE, List.map_cons, List.map_nil, Nat.reduceAdd, Nat.reduceSub, Nat.reduceMul, List.replicate_succ, List.replicate_zero, List.cons_append, List.nil_append, decide_eq_false_iff_not, List.getElem?_map, Option.map_some, p_isL, p_appX, Bool.false_bne, Bool.true_bne, beq_self_eq_true,  st_numbers, st_at, anySC, atI_int h1, e1]
    refine ⟨by omega, ⟨show (ns.length : Int) ≠ 0 by omega, ?_⟩, ?_⟩
    · have z : ns.length ≠ 0 := by omega
      have := (Nat.log2_lt z).mpr (show ns.length < 2 ^ 20 by omega)
      show ns.length.log2 < 9000
      omega
    · refine st_six ?_
      try simp only [↓x_var, ↓x_cst, ↓x_glob, ↓x_tup, ↓x_lst, ↓x_bin, ↓x_neg, ↓x_not, ↓x_and, ↓x_or, ↓x_cmp, ↓x_isN, ↓x_ite, ↓x_ix, ↓x_sl, ↓x_call, ↓x_call0, ↓x_blt, ↓x_isi, ↓x_lc, ↓x_nil, ↓x_cons, ↓x_and1, ↓x_and2, ↓x_or1, ↓x_or2, ↓x_ioN, ↓x_ioS, ↓x_seq, ↓x_rng1, ↓x_rng2, ↓x_pop, ↓x_disp, ↓x_rev, revX_tup, x_end, ↓x_snil, ↓x_scons, ↓x_set, ↓x_par, ↓x_par3, ↓x_unp, ↓x_six, ↓x_exp, ↓x_app, ↓x_ret, ↓x_retN, ↓x_pass, ↓x_brk, ↓x_cont, ↓x_never, ↓x_if, ↓x_for, ↓x_while, refX_ref, v_get, v_getO, v_getI, v_lst, v_ift, v_iff, v_ifn, v_ifd, v_ife, v_if0, v_ifb, v_newF, v_newT, v_tup, v_add, v_sub, v_mul, v_fdiv, v_mod, v_pow, v_addT, v_addL, v_mulL, v_lt, v_le, v_gt, v_ge, v_eqI, v_neI, v_eqB, v_neB, v_ixT, v_ixL, v_slT, v_slL, v_slS, v_lenT, v_lenL, v_int, v_abs, v_max2, v_min2, v_gcd, v_tupT, v_tupL, v_lstT, v_lstL, v_tg1, v_tg2, v_tg3, t_bl, t_int, t_non, s_tup, s_lst, s_scr, isNon, CV.d, isTys, isTy, List.getElem?_cons_zero, List.getElem?_cons_succ, List.set_cons_zero, List.set_cons_succ, put_same, put_put, wipeE, tgSlots, pureSC, List.length_map, List.length_cons, List.length_nil, Bool.or_false, Bool.or_true, Bool.not_true, Bool.not_false, p_ix, p_six, p_len, p_tup, Ext_r, reduceCtorEq, decide_true, decide_false, decide_eq_true_eq, or_true, true_or, or_false, false_or, and_self, true_and, and_true, false_and, and_false, Bool.false_eq_true, Bool.true_eq_false, false_implies, true_implies, implies_true, not_true_eq_false, not_false_eq_true, startE, List.map_cons, List.map_nil, Nat.reduceAdd, Nat.reduceSub, Nat.reduceMul, List.replicate_succ, List.replicate_zero, List.cons_append, List.nil_append, decide_eq_false_iff_not, List.getElem?_map, Option.map_some, p_isL, p_appX, Bool.false_bne, Bool.true_bne, beq_self_eq_true,  anySC]
      exact ⟨by omega, _, rfl, Int.fmod_nonneg_of_pos _ hb, Int.fmod_lt_of_pos _ hb⟩
  · rintro d M' ⟨r, rfl, h1, h2, rfl⟩
    have hS : Sta (St0 ns (t + 1)) := ⟨ns, t + 1, rfl, by omega, hn, hn2⟩
    exact Drop.to (c.put hS.cl) (.int _) .refl put_up (q r _ hS h1 h2)
theorem b__law_pick : BodyOk [sp_next] [] 2 ir__law_pick sp_pick := by
  rintro ds M Q E c cs ⟨a, o, xs, rfl, hM, hS, hx, q⟩
  refine body_any (fun d M' => ∃ o', Sta o' ∧ d ∈ xs ∧ M' = put M a o') ?_ ?_
  · rw [← put_self hM]
    unfold ir__law_pick
    try simp only [↓x_var, ↓x_cst, ↓x_glob, ↓x_tup, ↓x_lst, ↓x_bin, ↓x_neg, ↓x_not, ↓x_and, ↓x_or, ↓x_cmp, ↓x_isN, ↓x_ite, ↓x_ix, ↓x_sl, ↓x_call, ↓x_call0, ↓x_blt, ↓x_isi, ↓x_lc, ↓x_nil, ↓x_cons, ↓x_and1, ↓x_and2, ↓x_or1, ↓x_or2, ↓x_ioN, ↓x_ioS, ↓x_seq, ↓x_rng1, ↓x_rng2, ↓x_pop, ↓x_disp, ↓x_rev, revX_tup, x_end, ↓x_snil, ↓x_scons, ↓x_set, ↓x_par, ↓x_par3, ↓x_unp, ↓x_six, ↓x_exp, ↓x_app, ↓x_ret, ↓x_retN, ↓x_pass, ↓x_brk, ↓x_cont, ↓x_never, ↓x_if, ↓x_for, ↓x_while, refX_ref, v_get, v_getO, v_getI, v_lst, v_ift, v_iff, v_ifn, v_ifd, v_ife, v_if0, v_ifb, v_newF, v_newT, v_tup, v_add, v_sub, v_mul, v_fdiv, v_mod, v_pow, v_addT, v_addL, v_mulL, v_lt, v_le, v_gt, v_ge, v_eqI, v_neI, v_eqB, v_neB, v_ixT, v_ixL, v_slT, v_slL, v_slS, v_lenT, v_lenL, v_int, v_abs, v_max2, v_min2, v_gcd, v_tupT, v_tupL, v_lstT, v_lstL, v_tg1, v_tg2, v_tg3, t_bl, t_int, t_non, s_tup, s_lst, s_scr, isNon, CV.d, isTys, isTy, List.getElem?_cons_zero, List.getElem?_cons_succ, List.set_cons_zero, List.set_cons_succ, put_same, put_put, wipeE, tgSlots, pureSC, List.length_map, List.length_cons, List.length_nil, Bool.or_false, Bool.or_true, Bool.not_true, Bool.not_false, p_ix, p_six, p_len, p_tup, Ext_r, reduceCtorEq, decide_true, decide_false, decide_eq_true_eq, or_true, true_or, or_false, false_or, and_self, true_and, and_true, false_and, and_false, Bool.false_eq_true, Bool.true_eq_false, false_implies, true_implies, implies_true, not_true_eq_false, not_false_eq_true, startE, List.map_cons, List.map_nil, Nat.reduceAdd, Nat.reduceSub, Nat.reduceMul, List.replicate_succ, List.replicate_zero, List.cons_append, List.nil_append, decide_eq_false_iff_not, List.getElem?_map, Option.map_some, p_isL, p_appX, Bool.false_bne, Bool.true_bne, beq_self_eq_true]
    refine call_next hS (by omega) fun r o' hS' h0 h1 => ?_
    have e1 : xs[r.toNat]? = some (xs[r.toNat]'(by omega)) := List.getElem?_eq_getElem (by omega)
    try simp only [↓x_var, ↓x_cst, ↓x_glob, ↓x_tup, ↓x_lst, ↓x_bin, ↓x_neg, ↓x_not, ↓x_and, ↓x_or, ↓x_cmp, ↓x_isN, ↓x_ite, ↓x_ix, ↓x_sl, ↓x_call, ↓x_call0, ↓x_blt, ↓x_isi, ↓x_lc, ↓x_nil, ↓x_cons, ↓x_and1, ↓x_and2, ↓x_or1, ↓x_or2, ↓x_ioN, ↓x_ioS, ↓x_seq, ↓x_rng1, ↓x_rng2, ↓x_pop, ↓x_disp, ↓x_rev, revX_tup, x_end, ↓x_snil, ↓x_scons, ↓x_set, ↓x_par, ↓x_par3, ↓x_unp, ↓x_six, ↓x_exp, ↓x_app, ↓x_ret, ↓x_retN, ↓x_pass, ↓x_brk, ↓x_cont, ↓x_never, ↓x_if, ↓x_for, ↓x_while, refX_ref, v_get, v_getO, v_getI, v_lst, v_ift, v_iff, v_ifn, v_ifd, v_ife, v_if0, v_ifb, v_newF, v_newT, v_tup, v_add, v_sub, v_mul, v_fdiv, v_mod, v_pow, v_addT, v_addL, v_mulL, v_lt, v_le, v_gt, v_ge, v_eqI, v_neI, v_eqB, v_neB, v_ixT, v_ixL, v_slT, v_slL, v_slS, v_lenT, v_lenL, v_int, v_abs, v_max2, v_min2, v_gcd, v_tupT, v_tupL, v_lstT, v_lstL, v_tg1, v_tg2, v_tg3, t_bl, t_int, t_non, s_tup, s_lst, s_scr, isNon, CV.d, isTys, isTy, List.getElem?_cons_zero, List.getElem?_cons_succ, List.set_cons_zero, List.set_cons_succ, put_same, put_put, wipeE, tgSlots, pureSC, List.length_map, List.length_cons, List.length_nil, Bool.or_false, Bool.or_true, Bool.not_true, Bool.not_false, p_ix, p_six, p_len, p_tup, Ext_r, reduceCtorEq, decide_true, decide_false, decide_eq_true_eq, or_true, true_or, or_false, false_or, and_self, true_and, and_true, false_and, and_false, Bool.false_eq_true, Bool.true_eq_false, false_implies, true_implies, implies_true, not_true_eq_false, not_false_eq_true, startE, List.map_cons, List.map_nil, Nat.reduceAdd, Nat.reduceSub, Nat.reduceMul, List.replicate_succ, List.replicate_zero, List.cons_append, List.nil_append, decide_eq_false_iff_not, List.getElem?_map, Option.map_some, p_isL, p_appX, Bool.false_bne, Bool.true_bne, beq_self_eq_true,  atI_int h0, e1, anySC]
    exact ⟨o', hS', List.getElem_mem _, rfl⟩
  · rintro d M' ⟨o', hS', hd, rfl⟩
    have cx : Cls M xs := by
      cases cs with
      | cons _ cs =>
        cases cs with
        | cons h _ => cases h with
          | lst h => exact h
    exact Drop.to (c.put hS'.cl) ((cx.mem d hd).up put_up) .refl put_up (q d o' hd hS')
theorem b__law_poly : BodyOk [sp_pick, sp_trim, sp_next] [] 4 ir__law_poly sp_poly := by
  rintro ds M Q E c cs ⟨a, o, rfl, hM, hS, q⟩
  refine body_any (fun d M' => ∃ o' xs, Sta o' ∧ xs.length ≤ 8 ∧ (∀ x ∈ xs, Bit 20 x) ∧ Trd xs ∧ d = tp xs ∧ M' = put M a o') ?_ ?_
  · rw [← put_self hM]
    unfold ir__law_poly
    try simp only [↓x_var, ↓x_cst, ↓x_glob, ↓x_tup, ↓x_lst, ↓x_bin, ↓x_neg, ↓x_not, ↓x_and, ↓x_or, ↓x_cmp, ↓x_isN, ↓x_ite, ↓x_ix, ↓x_sl, ↓x_call, ↓x_call0, ↓x_blt, ↓x_isi, ↓x_lc, ↓x_nil, ↓x_cons, ↓x_and1, ↓x_and2, ↓x_or1, ↓x_or2, ↓x_ioN, ↓x_ioS, ↓x_seq, ↓x_rng1, ↓x_rng2, ↓x_pop, ↓x_disp, ↓x_rev, revX_tup, x_end, ↓x_snil, ↓x_scons, ↓x_set, ↓x_par, ↓x_par3, ↓x_unp, ↓x_six, ↓x_exp, ↓x_app, ↓x_ret, ↓x_retN, ↓x_pass, ↓x_brk, ↓x_cont, ↓x_never, ↓x_if, ↓x_for, ↓x_while, refX_ref, v_get, v_getO, v_getI, v_lst, v_ift, v_iff, v_ifn, v_ifd, v_ife, v_if0, v_ifb, v_newF, v_newT, v_tup, v_add, v_sub, v_mul, v_fdiv, v_mod, v_pow, v_addT, v_addL, v_mulL, v_lt, v_le, v_gt, v_ge, v_eqI, v_neI, v_eqB, v_neB, v_ixT, v_ixL, v_slT, v_slL, v_slS, v_lenT, v_lenL, v_int, v_abs, v_max2, v_min2, v_gcd, v_tupT, v_tupL, v_lstT, v_lstL, v_tg1, v_tg2, v_tg3, t_bl, t_int, t_non, s_tup, s_lst, s_scr, isNon, CV.d, isTys, isTy, List.getElem?_cons_zero, List.getElem?_cons_succ, List.set_cons_zero, List.set_cons_succ, put_same, put_put, wipeE, tgSlots, pureSC, List.length_map, List.length_cons, List.length_nil, Bool.or_false, Bool.or_true, Bool.not_true, Bool.not_false, p_ix, p_six, p_len, p_tup, Ext_r, reduceCtorEq, decide_true, decide_false, decide_eq_true_eq, or_true, true_or, or_false, false_or, and_self, true_and, and_true, false_and, and_false, Bool.false_eq_true, Bool.true_eq_false, false_implies, true_implies, implies_true, not_true_eq_false, not_false_eq_true, startE, List.map_cons, List.map_nil, Nat.reduceAdd, Nat.reduceSub, Nat.reduceMul, List.replicate_succ, List.replicate_zero, List.cons_append, List.nil_append, decide_eq_false_iff_not, List.getElem?_map, Option.map_some, p_isL, p_appX, Bool.false_bne, Bool.true_bne, beq_self_eq_true]
    refine ⟨?_, by decide⟩
    refine call_pick hS (by decide) fun x1 o1 hx1 hS1 => ?_
    obtain ⟨by_, e1, b1⟩ : ∃ i, x1 = .int i ∧ Bit 3 i := by
      simp only [List.mem_cons, List.not_mem_nil, or_false] at hx1
      rcases hx1 with rfl | rfl | rfl | rfl | rfl <;> exact ⟨_, rfl, by decide⟩
    subst e1
    try simp only [↓x_var, ↓x_cst, ↓x_glob, ↓x_tup, ↓x_lst, ↓x_bin, ↓x_neg, ↓x_not, ↓x_and, ↓x_or, ↓x_cmp, ↓x_isN, ↓x_ite, ↓x_ix, ↓x_sl, ↓x_call, ↓x_call0, ↓x_blt, ↓x_isi, ↓x_lc, ↓x_nil, ↓x_cons, ↓x_and1, ↓x_and2, ↓x_or1, ↓x_or2, ↓x_ioN, ↓x_ioS, ↓x_seq, ↓x_rng1, ↓x_rng2, ↓x_pop, ↓x_disp, ↓x_rev, revX_tup, x_end, ↓x_snil, ↓x_scons, ↓x_set, ↓x_par, ↓x_par3, ↓x_unp, ↓x_six, ↓x_exp, ↓x_app, ↓x_ret, ↓x_retN, ↓x_pass, ↓x_brk, ↓x_cont, ↓x_never, ↓x_if, ↓x_for, ↓x_while, refX_ref, v_get, v_getO, v_getI, v_lst, v_ift, v_iff, v_ifn, v_ifd, v_ife, v_if0, v_ifb, v_newF, v_newT, v_tup, v_add, v_sub, v_mul, v_fdiv, v_mod, v_pow, v_addT, v_addL, v_mulL, v_lt, v_le, v_gt, v_ge, v_eqI, v_neI, v_eqB, v_neB, v_ixT, v_ixL, v_slT, v_slL, v_slS, v_lenT, v_lenL, v_int, v_abs, v_max2, v_min2, v_gcd, v_tupT, v_tupL, v_lstT, v_lstL, v_tg1, v_tg2, v_tg3, t_bl, t_int, t_non, s_tup, s_lst, s_scr, isNon, CV.d, isTys, isTy, List.getElem?_cons_zero, List.getElem?_cons_succ, List.set_cons_zero, List.set_cons_succ, put_same, put_put, wipeE, tgSlots, pureSC, List.length_map, List.length_cons, List.length_nil, Bool.or_false, Bool.or_true, Bool.not_true, Bool.not_false, p_ix, p_six, p_len, p_tup, Ext_r, reduceCtorEq, decide_true, decide_false, decide_eq_true_eq, or_true, true_or, or_false, false_or, and_self, true_and, and_true, false_and, and_false, Bool.false_eq_true, Bool.true_eq_false, false_implies, true_implies, implies_true, not_true_eq_false, not_false_eq_true, startE, List.map_cons, List.map_nil, Nat.reduceAdd, Nat.reduceSub, Nat.reduceMul, List.replicate_succ, List.replicate_zero, List.cons_append, List.nil_append, decide_eq_false_iff_not, List.getElem?_map, Option.map_some, p_isL, p_appX, Bool.false_bne, Bool.true_bne, beq_self_eq_true]
    refine ⟨?_, by decide⟩
    refine call_pick hS1 (by decide) fun x2 o2 hx2 hS2 => ?_
    obtain ⟨wd, e2, b2, b3⟩ : ∃ i, x2 = .int i ∧ 0 < i ∧ i ≤ 1000 := by
      simp only [List.mem_cons, List.not_mem_nil, or_false] at hx2
      rcases hx2 with rfl | rfl | rfl <;> exact ⟨_, rfl, by decide, by decide⟩
    subst e2
    try simp only [↓x_var, ↓x_cst, ↓x_glob, ↓x_tup, ↓x_lst, ↓x_bin, ↓x_neg, ↓x_not, ↓x_and, ↓x_or, ↓x_cmp, ↓x_isN, ↓x_ite, ↓x_ix, ↓x_sl, ↓x_call, ↓x_call0, ↓x_blt, ↓x_isi, ↓x_lc, ↓x_nil, ↓x_cons, ↓x_and1, ↓x_and2, ↓x_or1, ↓x_or2, ↓x_ioN, ↓x_ioS, ↓x_seq, ↓x_rng1, ↓x_rng2, ↓x_pop, ↓x_disp, ↓x_rev, revX_tup, x_end, ↓x_snil, ↓x_scons, ↓x_set, ↓x_par, ↓x_par3, ↓x_unp, ↓x_six, ↓x_exp, ↓x_app, ↓x_ret, ↓x_retN, ↓x_pass, ↓x_brk, ↓x_cont, ↓x_never, ↓x_if, ↓x_for, ↓x_while, refX_ref, v_get, v_getO, v_getI, v_lst, v_ift, v_iff, v_ifn, v_ifd, v_ife, v_if0, v_ifb, v_newF, v_newT, v_tup, v_add, v_sub, v_mul, v_fdiv, v_mod, v_pow, v_addT, v_addL, v_mulL, v_lt, v_le, v_gt, v_ge, v_eqI, v_neI, v_eqB, v_neB, v_ixT, v_ixL, v_slT, v_slL, v_slS, v_lenT, v_lenL, v_int, v_abs, v_max2, v_min2, v_gcd, v_tupT, v_tupL, v_lstT, v_lstL, v_tg1, v_tg2, v_tg3, t_bl, t_int, t_non, s_tup, s_lst, s_scr, isNon, CV.d, isTys, isTy, List.getElem?_cons_zero, List.getElem?_cons_succ, List.set_cons_zero, List.set_cons_succ, put_same, put_put, wipeE, tgSlots, pureSC, List.length_map, List.length_cons, List.length_nil, Bool.or_false, Bool.or_true, Bool.not_true, Bool.not_false, p_ix, p_six, p_len, p_tup, Ext_r, reduceCtorEq, decide_true, decide_false, decide_eq_true_eq, or_true, true_or, or_false, false_or, and_self, true_and, and_true, false_and, and_false, Bool.false_eq_true, Bool.true_eq_false, false_implies, true_implies, implies_true, not_true_eq_false, not_false_eq_true, startE, List.map_cons, List.map_nil, Nat.reduceAdd, Nat.reduceSub, Nat.reduceMul, List.replicate_succ, List.replicate_zero, List.cons_append, List.nil_append, decide_eq_false_iff_not, List.getElem?_map, Option.map_some, p_isL, p_appX, Bool.false_bne, Bool.true_bne, beq_self_eq_true]
    refine ⟨by decide, ?_⟩
    refine call_next hS2 (by decide) fun r o3 hS3 h0 h1 => ?_
    try simp only [↓x_var, ↓x_cst, ↓x_glob, ↓x_tup, ↓x_lst, ↓x_bin, ↓x_neg, ↓x_not, ↓x_and, ↓x_or, ↓x_cmp, ↓x_isN, ↓x_ite, ↓x_ix, ↓x_sl, ↓x_call, ↓x_call0, ↓x_blt, ↓x_isi, ↓x_lc, ↓x_nil, ↓x_cons, ↓x_and1, ↓x_and2, ↓x_or1, ↓x_or2, ↓x_ioN, ↓x_ioS, ↓x_seq, ↓x_rng1, ↓x_rng2, ↓x_pop, ↓x_disp, ↓x_rev, revX_tup, x_end, ↓x_snil, ↓x_scons, ↓x_set, ↓x_par, ↓x_par3, ↓x_unp, ↓x_six, ↓x_exp, ↓x_app, ↓x_ret, ↓x_retN, ↓x_pass, ↓x_brk, ↓x_cont, ↓x_never, ↓x_if, ↓x_for, ↓x_while, refX_ref, v_get, v_getO, v_getI, v_lst, v_ift, v_iff, v_ifn, v_ifd, v_ife, v_if0, v_ifb, v_newF, v_newT, v_tup, v_add, v_sub, v_mul, v_fdiv, v_mod, v_pow, v_addT, v_addL, v_mulL, v_lt, v_le, v_gt, v_ge, v_eqI, v_neI, v_eqB, v_neB, v_ixT, v_ixL, v_slT, v_slL, v_slS, v_lenT, v_lenL, v_int, v_abs, v_max2, v_min2, v_gcd, v_tupT, v_tupL, v_lstT, v_lstL, v_tg1, v_tg2, v_tg3, t_bl, t_int, t_non, s_tup, s_lst, s_scr, isNon, CV.d, isTys, isTy, List.getElem?_cons_zero, List.getElem?_cons_succ, List.set_cons_zero, List.set_cons_succ, put_same, put_put, wipeE, tgSlots, pureSC, List.length_map, List.length_cons, List.length_nil, Bool.or_false, Bool.or_true, Bool.not_true, Bool.not_false, p_ix, p_six, p_len, p_tup, Ext_r, reduceCtorEq, decide_true, decide_false, decide_eq_true_eq, or_true, true_or, or_false, false_or, and_self, true_and, and_true, false_and, and_false, Bool.false_eq_true, Bool.true_eq_false, false_implies, true_implies, implies_true, not_true_eq_false, not_false_eq_true, startE, List.map_cons, List.map_nil, Nat.reduceAdd, Nat.reduceSub, Nat.reduceMul, List.replicate_succ, List.replicate_zero, List.cons_append, List.nil_append, decide_eq_false_iff_not, List.getElem?_map, Option.map_some, p_isL, p_appX, Bool.false_bne, Bool.true_bne, beq_self_eq_true]
    refine ⟨by omega, ?_⟩
    refine lc_list (fun k : Nat => .int k) (List.range r.toNat) (fun k acc M' => ∃ o' zs, Sta o' ∧ M' = put M a o' ∧ acc = zs.map D.int ∧ ∀ z ∈ zs, Bit 20 z) rfl ⟨o3, [], hS3, rfl, rfl, fun z hz => by cases hz⟩ (by rw [List.length_range]; unfold sizeLine; omega) ?_ ?_
    · rintro k i acc M' hk ha ⟨o', zs, hS', rfl, rfl, hz⟩
      have m2 : mulOk 2 wd := mulOk_of (a := 2) (b := 10) (by decide) (show wd.natAbs < 2 ^ 10 by omega)
      try simp only [↓x_var, ↓x_cst, ↓x_glob, ↓x_tup, ↓x_lst, ↓x_bin, ↓x_neg, ↓x_not, ↓x_and, ↓x_or, ↓x_cmp, ↓x_isN, ↓x_ite, ↓x_ix, ↓x_sl, ↓x_call, ↓x_call0, ↓x_blt, ↓x_isi, ↓x_lc, ↓x_nil, ↓x_cons, ↓x_and1, ↓x_and2, ↓x_or1, ↓x_or2, ↓x_ioN, ↓x_ioS, ↓x_seq, ↓x_rng1, ↓x_rng2, ↓x_pop, ↓x_disp, ↓x_rev, revX_tup, x_end, ↓x_snil, ↓x_scons, ↓x_set, ↓x_par, ↓x_par3, ↓x_unp, ↓x_six, ↓x_exp, ↓x_app, ↓x_ret, ↓x_retN, ↓x_pass, ↓x_brk, ↓x_cont, ↓x_never, ↓x_if, ↓x_for, ↓x_while, refX_ref, v_get, v_getO, v_getI, v_lst, v_ift, v_iff, v_ifn, v_ifd, v_ife, v_if0, v_ifb, v_newF, v_newT, v_tup, v_add, v_sub, v_mul, v_fdiv, v_mod, v_pow, v_addT, v_addL, v_mulL, v_lt, v_le, v_gt, v_ge, v_eqI, v_neI, v_eqB, v_neB, v_ixT, v_ixL, v_slT, v_slL, v_slS, v_lenT, v_lenL, v_int, v_abs, v_max2, v_min2, v_gcd, v_tupT, v_tupL, v_lstT, v_lstL, v_tg1, v_tg2, v_tg3, t_bl, t_int, t_non, s_tup, s_lst, s_scr, isNon, CV.d, isTys, isTy, List.getElem?_cons_zero, List.getElem?_cons_succ, List.set_cons_zero, List.set_cons_succ, put_same, put_put, wipeE, tgSlots, pureSC, List.length_map, List.length_cons, List.length_nil, Bool.or_false, Bool.or_true, Bool.not_true, Bool.not_false, p_ix, p_six, p_len, p_tup, Ext_r, reduceCtorEq, decide_true, decide_false, decide_eq_true_eq, or_true, true_or, or_false, false_or, and_self, true_and, and_true, false_and, and_false, Bool.false_eq_true, Bool.true_eq_false, false_implies, true_implies, implies_true, not_true_eq_false, not_false_eq_true, startE, List.map_cons, List.map_nil, Nat.reduceAdd, Nat.reduceSub, Nat.reduceMul, List.replicate_succ, List.replicate_zero, List.cons_append, List.nil_append, decide_eq_false_iff_not, List.getElem?_map, Option.map_some, p_isL, p_appX, Bool.false_bne, Bool.true_bne, beq_self_eq_true]
      refine ⟨m2, call_next hS' (by omega) fun s o4 hS4 g0 g1 => ?_⟩
      have b4 : Bit 10 (s - wd) := show (s - wd).natAbs < 2 ^ 10 by omega
      try simp only [↓x_var, ↓x_cst, ↓x_glob, ↓x_tup, ↓x_lst, ↓x_bin, ↓x_neg, ↓x_not, ↓x_and, ↓x_or, ↓x_cmp, ↓x_isN, ↓x_ite, ↓x_ix, ↓x_sl, ↓x_call, ↓x_call0, ↓x_blt, ↓x_isi, ↓x_lc, ↓x_nil, ↓x_cons, ↓x_and1, ↓x_and2, ↓x_or1, ↓x_or2, ↓x_ioN, ↓x_ioS, ↓x_seq, ↓x_rng1, ↓x_rng2, ↓x_pop, ↓x_disp, ↓x_rev, revX_tup, x_end, ↓x_snil, ↓x_scons, ↓x_set, ↓x_par, ↓x_par3, ↓x_unp, ↓x_six, ↓x_exp, ↓x_app, ↓x_ret, ↓x_retN, ↓x_pass, ↓x_brk, ↓x_cont, ↓x_never, ↓x_if, ↓x_for, ↓x_while, refX_ref, v_get, v_getO, v_getI, v_lst, v_ift, v_iff, v_ifn, v_ifd, v_ife, v_if0, v_ifb, v_newF, v_newT, v_tup, v_add, v_sub, v_mul, v_fdiv, v_mod, v_pow, v_addT, v_addL, v_mulL, v_lt, v_le, v_gt, v_ge, v_eqI, v_neI, v_eqB, v_neB, v_ixT, v_ixL, v_slT, v_slL, v_slS, v_lenT, v_lenL, v_int, v_abs, v_max2, v_min2, v_gcd, v_tupT, v_tupL, v_lstT, v_lstL, v_tg1, v_tg2, v_tg3, t_bl, t_int, t_non, s_tup, s_lst, s_scr, isNon, CV.d, isTys, isTy, List.getElem?_cons_zero, List.getElem?_cons_succ, List.set_cons_zero, List.set_cons_succ, put_same, put_put, wipeE, tgSlots, pureSC, List.length_map, List.length_cons, List.length_nil, Bool.or_false, Bool.or_true, Bool.not_true, Bool.not_false, p_ix, p_six, p_len, p_tup, Ext_r, reduceCtorEq, decide_true, decide_false, decide_eq_true_eq, or_true, true_or, or_false, false_or, and_self, true_and, and_true, false_and, and_false, Bool.false_eq_true, Bool.true_eq_false, false_implies, true_implies, implies_true, not_true_eq_false, not_false_eq_true, startE, List.map_cons, List.map_nil, Nat.reduceAdd, Nat.reduceSub, Nat.reduceMul, List.replicate_succ, List.replicate_zero, List.cons_append, List.nil_append, decide_eq_false_iff_not, List.getElem?_map, Option.map_some, p_isL, p_appX, Bool.false_bne, Bool.true_bne, beq_self_eq_true]
      refine ⟨mulOk_of b1 b4, o4, zs ++ [by_ * (s - wd)], hS4, rfl, by rw [List.map_append]; rfl, fun z hz' => ?_⟩
      rcases List.mem_append.mp hz' with m | m
      · exact hz z m
      · rw [List.mem_singleton.mp m]
        exact (b1.mul b4).up (by decide)
    · rintro acc M' ha ⟨o', zs, hS', rfl, rfl, hz⟩
      rw [List.length_map, List.length_range] at ha
      try simp only [↓x_var, ↓x_cst, ↓x_glob, ↓x_tup, ↓x_lst, ↓x_bin, ↓x_neg, ↓x_not, ↓x_and, ↓x_or, ↓x_cmp, ↓x_isN, ↓x_ite, ↓x_ix, ↓x_sl, ↓x_call, ↓x_call0, ↓x_blt, ↓x_isi, ↓x_lc, ↓x_nil, ↓x_cons, ↓x_and1, ↓x_and2, ↓x_or1, ↓x_or2, ↓x_ioN, ↓x_ioS, ↓x_seq, ↓x_rng1, ↓x_rng2, ↓x_pop, ↓x_disp, ↓x_rev, revX_tup, x_end, ↓x_snil, ↓x_scons, ↓x_set, ↓x_par, ↓x_par3, ↓x_unp, ↓x_six, ↓x_exp, ↓x_app, ↓x_ret, ↓x_retN, ↓x_pass, ↓x_brk, ↓x_cont, ↓x_never, ↓x_if, ↓x_for, ↓x_while, refX_ref, v_get, v_getO, v_getI, v_lst, v_ift, v_iff, v_ifn, v_ifd, v_ife, v_if0, v_ifb, v_newF, v_newT, v_tup, v_add, v_sub, v_mul, v_fdiv, v_mod, v_pow, v_addT, v_addL, v_mulL, v_lt, v_le, v_gt, v_ge, v_eqI, v_neI, v_eqB, v_neB, v_ixT, v_ixL, v_slT, v_slL, v_slS, v_lenT, v_lenL, v_int, v_abs, v_max2, v_min2, v_gcd, v_tupT, v_tupL, v_lstT, v_lstL, v_tg1, v_tg2, v_tg3, t_bl, t_int, t_non, s_tup, s_lst, s_scr, isNon, CV.d, isTys, isTy, List.getElem?_cons_zero, List.getElem?_cons_succ, List.set_cons_zero, List.set_cons_succ, put_same, put_put, wipeE, tgSlots, pureSC, List.length_map, List.length_cons, List.length_nil, Bool.or_false, Bool.or_true, Bool.not_true, Bool.not_false, p_ix, p_six, p_len, p_tup, Ext_r, reduceCtorEq, decide_true, decide_false, decide_eq_true_eq, or_true, true_or, or_false, false_or, and_self, true_and, and_true, false_and, and_false, Bool.false_eq_true, Bool.true_eq_false, false_implies, true_implies, implies_true, not_true_eq_false, not_false_eq_true, startE, List.map_cons, List.map_nil, Nat.reduceAdd, Nat.reduceSub, Nat.reduceMul, List.replicate_succ, List.replicate_zero, List.cons_append, List.nil_append, decide_eq_false_iff_not, List.getElem?_map, Option.map_some, p_isL, p_appX, Bool.false_bne, Bool.true_bne, beq_self_eq_true]
      have lt := trim_len (xs := zs)
      refine call_trim zs (by omega) ?_ _ rfl
      try simp only [↓x_var, ↓x_cst, ↓x_glob, ↓x_tup, ↓x_lst, ↓x_bin, ↓x_neg, ↓x_not, ↓x_and, ↓x_or, ↓x_cmp, ↓x_isN, ↓x_ite, ↓x_ix, ↓x_sl, ↓x_call, ↓x_call0, ↓x_blt, ↓x_isi, ↓x_lc, ↓x_nil, ↓x_cons, ↓x_and1, ↓x_and2, ↓x_or1, ↓x_or2, ↓x_ioN, ↓x_ioS, ↓x_seq, ↓x_rng1, ↓x_rng2, ↓x_pop, ↓x_disp, ↓x_rev, revX_tup, x_end, ↓x_snil, ↓x_scons, ↓x_set, ↓x_par, ↓x_par3, ↓x_unp, ↓x_six, ↓x_exp, ↓x_app, ↓x_ret, ↓x_retN, ↓x_pass, ↓x_brk, ↓x_cont, ↓x_never, ↓x_if, ↓x_for, ↓x_while, refX_ref, v_get, v_getO, v_getI, v_lst, v_ift, v_iff, v_ifn, v_ifd, v_ife, v_if0, v_ifb, v_newF, v_newT, v_tup, v_add, v_sub, v_mul, v_fdiv, v_mod, v_pow, v_addT, v_addL, v_mulL, v_lt, v_le, v_gt, v_ge, v_eqI, v_neI, v_eqB, v_neB, v_ixT, v_ixL, v_slT, v_slL, v_slS, v_lenT, v_lenL, v_int, v_abs, v_max2, v_min2, v_gcd, v_tupT, v_tupL, v_lstT, v_lstL, v_tg1, v_tg2, v_tg3, t_bl, t_int, t_non, s_tup, s_lst, s_scr, isNon, CV.d, isTys, isTy, List.getElem?_cons_zero, List.getElem?_cons_succ, List.set_cons_zero, List.set_cons_succ, put_same, put_put, wipeE, tgSlots, pureSC, List.length_map, List.length_cons, List.length_nil, Bool.or_false, Bool.or_true, Bool.not_true, Bool.not_false, p_ix, p_six, p_len, p_tup, Ext_r, reduceCtorEq, decide_true, decide_false, decide_eq_true_eq, or_true, true_or, or_false, false_or, and_self, true_and, and_true, false_and, and_false, Bool.false_eq_true, Bool.true_eq_false, false_implies, true_implies, implies_true, not_true_eq_false, not_false_eq_true, startE, List.map_cons, List.map_nil, Nat.reduceAdd, Nat.reduceSub, Nat.reduceMul, List.replicate_succ, List.replicate_zero, List.cons_append, List.nil_append, decide_eq_false_iff_not, List.getElem?_map, Option.map_some, p_isL, p_appX, Bool.false_bne, Bool.true_bne, beq_self_eq_true,  anySC]
      exact ⟨o', trim zs, hS', by omega, fun z h => hz z (trim_mem h), trim_trd zs, rfl, rfl⟩
  · rintro d M' ⟨o', xs, hS', h1, h2, h3, rfl, rfl⟩
    exact Drop.to (c.put hS'.cl) cl_tp .refl put_up (q xs o' hS' h1 h2 h3)
theorem fmod_bit {i : Int} : Bit 31 (i.fmod 2147483647) := by
  have h1 : 0 ≤ i.fmod 2147483647 := Int.fmod_nonneg_of_pos _ (by decide)
  have h2 : i.fmod 2147483647 < 2147483647 := Int.fmod_lt_of_pos _ (by decide)
  show _ < 2 ^ 31
  omega
theorem put_app {M : Mem} {p : Addr} {nums : List Int} {v : Int} : put M p (.lst (nums.map D.int ++ [.int v])) = put M p (.lst ((nums ++ [v]).map D.int)) := by rw [List.map_append]; rfl
theorem divOk_lit {j : Int} (h : j ≠ 0 ∧ j.natAbs.log2 < 9000) : divOk j := h
theorem b__law_draws : BodyOk [] [] 6 ir__law_draws sp_draws := by
  rintro ds M Q E c cs ⟨cl, rfl, hc, hc2, q⟩
  refine body_any (fun d M' => ∃ p a nums, M p = none ∧ M a = none ∧ a ≠ p ∧ d = .ref a ∧ List.length nums = 40 * cl.length ∧ M' = put (put M p (.lst (nums.map D.int))) a (.dK [(.inr "numbers", .ref p), (.inr "at", .int 0)])) ?_ ?_
  · unfold ir__law_draws
    try simp only [↓x_var, ↓x_cst, ↓x_glob, ↓x_tup, ↓x_lst, ↓x_bin, ↓x_neg, ↓x_not, ↓x_and, ↓x_or, ↓x_cmp, ↓x_isN, ↓x_ite, ↓x_ix, ↓x_sl, ↓x_call, ↓x_call0, ↓x_blt, ↓x_isi, ↓x_lc, ↓x_nil, ↓x_cons, ↓x_and1, ↓x_and2, ↓x_or1, ↓x_or2, ↓x_ioN, ↓x_ioS, ↓x_seq, ↓x_rng1, ↓x_rng2, ↓x_pop, ↓x_disp, ↓x_rev, revX_tup, x_end, ↓x_snil, ↓x_scons, ↓x_set, ↓x_par, ↓x_par3, ↓x_unp, ↓x_six, ↓x_exp, ↓x_app, ↓x_ret, ↓x_retN, ↓x_pass, ↓x_brk, ↓x_cont, ↓x_never, ↓x_if, ↓x_for, ↓x_while, refX_ref, v_get, v_getO, v_getI, v_lst, v_ift, v_iff, v_ifn, v_ifd, v_ife, v_if0, v_ifb, v_newF, v_newT, v_tup, v_add, v_sub, v_mul, v_fdiv, v_mod, v_pow, v_addT, v_addL, v_mulL, v_lt, v_le, v_gt, v_ge, v_eqI, v_neI, v_eqB, v_neB, v_ixT, v_ixL, v_slT, v_slL, v_slS, v_lenT, v_lenL, v_int, v_abs, v_max2, v_min2, v_gcd, v_tupT, v_tupL, v_lstT, v_lstL, v_tg1, v_tg2, v_tg3, t_bl, t_int, t_non, s_tup, s_lst, s_scr, isNon, CV.d, isTys, isTy, List.getElem?_cons_zero, List.getElem?_cons_succ, List.set_cons_zero, List.set_cons_succ, put_same, put_put, wipeE, tgSlots, pureSC, List.length_map, List.length_cons, List.length_nil, Bool.or_false, Bool.or_true, Bool.not_true, Bool.not_false, p_ix, p_six, p_len, p_tup, Ext_r, reduceCtorEq, decide_true, decide_false, decide_eq_true_eq, or_true, true_or, or_false, false_or, and_self, true_and, and_true, false_and, and_false, Bool.false_eq_true, Bool.true_eq_false, false_implies, true_implies, implies_true, not_true_eq_false, not_false_eq_true, startE, List.map_cons, List.map_nil, Nat.reduceAdd, Nat.reduceSub, Nat.reduceMul, List.replicate_succ, List.replicate_zero, List.cons_append, List.nil_append, decide_eq_false_iff_not, List.getElem?_map, Option.map_some, p_isL, p_appX, Bool.false_bne, Bool.true_bne, beq_self_eq_true]
    refine ⟨?_, by decide⟩
    intro p hp
    refine for_list D.int cl (fun done ρ M' => ∃ nums x2 x3 x4 x5, ρ = [some (li cl), some (.ref p), x2, x3, x4, x5] ∧ M' = put M p (.lst (nums.map D.int)) ∧ nums.length = 40 * done.length) rfl ⟨[], _, _, _, _, rfl, rfl, rfl⟩ ?_ ?_
    · rintro done cell rest ρ M' he ⟨nums, x2, x3, x4, x5, rfl, rfl, hl⟩
      have hd := congrArg List.length he
      rw [List.length_append, List.length_cons] at hd
      try simp only [↓x_var, ↓x_cst, ↓x_glob, ↓x_tup, ↓x_lst, ↓x_bin, ↓x_neg, ↓x_not, ↓x_and, ↓x_or, ↓x_cmp, ↓x_isN, ↓x_ite, ↓x_ix, ↓x_sl, ↓x_call, ↓x_call0, ↓x_blt, ↓x_isi, ↓x_lc, ↓x_nil, ↓x_cons, ↓x_and1, ↓x_and2, ↓x_or1, ↓x_or2, ↓x_ioN, ↓x_ioS, ↓x_seq, ↓x_rng1, ↓x_rng2, ↓x_pop, ↓x_disp, ↓x_rev, revX_tup, x_end, ↓x_snil, ↓x_scons, ↓x_set, ↓x_par, ↓x_par3, ↓x_unp, ↓x_six, ↓x_exp, ↓x_app, ↓x_ret, ↓x_retN, ↓x_pass, ↓x_brk, ↓x_cont, ↓x_never, ↓x_if, ↓x_for, ↓x_while, refX_ref, v_get, v_getO, v_getI, v_lst, v_ift, v_iff, v_ifn, v_ifd, v_ife, v_if0, v_ifb, v_newF, v_newT, v_tup, v_add, v_sub, v_mul, v_fdiv, v_mod, v_pow, v_addT, v_addL, v_mulL, v_lt, v_le, v_gt, v_ge, v_eqI, v_neI, v_eqB, v_neB, v_ixT, v_ixL, v_slT, v_slL, v_slS, v_lenT, v_lenL, v_int, v_abs, v_max2, v_min2, v_gcd, v_tupT, v_tupL, v_lstT, v_lstL, v_tg1, v_tg2, v_tg3, t_bl, t_int, t_non, s_tup, s_lst, s_scr, isNon, CV.d, isTys, isTy, List.getElem?_cons_zero, List.getElem?_cons_succ, List.set_cons_zero, List.set_cons_succ, put_same, put_put, wipeE, tgSlots, pureSC, List.length_map, List.length_cons, List.length_nil, Bool.or_false, Bool.or_true, Bool.not_true, Bool.not_false, p_ix, p_six, p_len, p_tup, Ext_r, reduceCtorEq, decide_true, decide_false, decide_eq_true_eq, or_true, true_or, or_false, false_or, and_self, true_and, and_true, false_and, and_false, Bool.false_eq_true, Bool.true_eq_false, false_implies, true_implies, implies_true, not_true_eq_false, not_false_eq_true, startE, List.map_cons, List.map_nil, Nat.reduceAdd, Nat.reduceSub, Nat.reduceMul, List.replicate_succ, List.replicate_zero, List.cons_append, List.nil_append, decide_eq_false_iff_not, List.getElem?_map, Option.map_some, p_isL, p_appX, Bool.false_bne, Bool.true_bne, beq_self_eq_true]
      refine ⟨by decide, by decide, ?_⟩
      refine for_list (fun k : Nat => .int k) (List.range 40) (fun done2 ρ M' => ∃ nums cell seed x4 x5, ρ = [some (li cl), some (.ref p), some (.int cell), some (.int seed), x4, x5] ∧ Bit 31 seed ∧ M' = put M p (.lst (nums.map D.int)) ∧ nums.length = 40 * done.length + done2.length) rfl ⟨nums, cell, _, _, _, rfl, fmod_bit, rfl, by rw [hl]; rfl⟩ ?_ ?_
      · rintro done2 k rest2 ρ M' he2 ⟨nums, cell, seed, x4, x5, rfl, hs, rfl, hl2⟩
        have hd2 := congrArg List.length he2
        rw [List.length_append, List.length_cons, List.length_range] at hd2
        have hk : k < 40 := by
          have : k ∈ List.range 40 := by rw [he2]; simp
          exact List.mem_range.mp this
        try simp only [↓x_var, ↓x_cst, ↓x_glob, ↓x_tup, ↓x_lst, ↓x_bin, ↓x_neg, ↓x_not, ↓x_and, ↓x_or, ↓x_cmp, ↓x_isN, ↓x_ite, ↓x_ix, ↓x_sl, ↓x_call, ↓x_call0, ↓x_blt, ↓x_isi, ↓x_lc, ↓x_nil, ↓x_cons, ↓x_and1, ↓x_and2, ↓x_or1, ↓x_or2, ↓x_ioN, ↓x_ioS, ↓x_seq, ↓x_rng1, ↓x_rng2, ↓x_pop, ↓x_disp, ↓x_rev, revX_tup, x_end, ↓x_snil, ↓x_scons, ↓x_set, ↓x_par, ↓x_par3, ↓x_unp, ↓x_six, ↓x_exp, ↓x_app, ↓x_ret, ↓x_retN, ↓x_pass, ↓x_brk, ↓x_cont, ↓x_never, ↓x_if, ↓x_for, ↓x_while, refX_ref, v_get, v_getO, v_getI, v_lst, v_ift, v_iff, v_ifn, v_ifd, v_ife, v_if0, v_ifb, v_newF, v_newT, v_tup, v_add, v_sub, v_mul, v_fdiv, v_mod, v_pow, v_addT, v_addL, v_mulL, v_lt, v_le, v_gt, v_ge, v_eqI, v_neI, v_eqB, v_neB, v_ixT, v_ixL, v_slT, v_slL, v_slS, v_lenT, v_lenL, v_int, v_abs, v_max2, v_min2, v_gcd, v_tupT, v_tupL, v_lstT, v_lstL, v_tg1, v_tg2, v_tg3, t_bl, t_int, t_non, s_tup, s_lst, s_scr, isNon, CV.d, isTys, isTy, List.getElem?_cons_zero, List.getElem?_cons_succ, List.set_cons_zero, List.set_cons_succ, put_same, put_put, wipeE, tgSlots, pureSC, List.length_map, List.length_cons, List.length_nil, Bool.or_false, Bool.or_true, Bool.not_true, Bool.not_false, p_ix, p_six, p_len, p_tup, Ext_r, reduceCtorEq, decide_true, decide_false, decide_eq_true_eq, or_true, true_or, or_false, false_or, and_self, true_and, and_true, false_and, and_false, Bool.false_eq_true, Bool.true_eq_false, false_implies, true_implies, implies_true, not_true_eq_false, not_false_eq_true, startE, List.map_cons, List.map_nil, Nat.reduceAdd, Nat.reduceSub, Nat.reduceMul, List.replicate_succ, List.replicate_zero, List.cons_append, List.nil_append, decide_eq_false_iff_not, List.getElem?_map, Option.map_some, p_isL, p_appX, Bool.false_bne, Bool.true_bne, beq_self_eq_true]
        have b2 : Bit 31 ((seed * 48271 + 12345 + ↑k).fmod 2147483647) := fmod_bit
        have m1 : mulOk seed 48271 := mulOk_of (a := 31) (b := 20) hs (by decide)
        have m2 : mulOk ((seed * 48271 + 12345 + ↑k).fmod 2147483647) 69621 := mulOk_of (a := 31) (b := 20) b2 (by decide)
        have m3 : mulOk 977 ↑k := mulOk_of (a := 20) (b := 20) (by decide) (show (k : Int).natAbs < 2 ^ 20 by omega)
        have ll : nums.length < sizeLine := by unfold sizeLine; omega
        have e3 : ∀ v : Int, (nums ++ [v]).length = 40 * done.length + (done2 ++ [k]).length := fun v => by rw [List.length_append, List.length_append, hl2]; rfl
        have e4 : divOk 1048576 := ⟨by decide, by decide⟩
        have e5 : divOk 3 := ⟨by decide, by decide⟩
        refine ⟨m1, by decide, m2, m3, by decide, by decide, fun _ => ⟨by decide, ll, by decide, fun _ => ⟨e4, ?_⟩, fun _ => ?_⟩, fun _ => ⟨e5, by decide, ll, by decide, fun _ => ⟨e4, ?_⟩, fun _ => ?_⟩⟩
        all_goals exact ⟨nums ++ [_], _, _, _, _, rfl, b2, put_app, e3 _⟩
      · rintro ρ M' ⟨nums, cell, seed, x4, x5, rfl, hs, rfl, hl2⟩
        try simp only [↓x_var, ↓x_cst, ↓x_glob, ↓x_tup, ↓x_lst, ↓x_bin, ↓x_neg, ↓x_not, ↓x_and, ↓x_or, ↓x_cmp, ↓x_isN, ↓x_ite, ↓x_ix, ↓x_sl, ↓x_call, ↓x_call0, ↓x_blt, ↓x_isi, ↓x_lc, ↓x_nil, ↓x_cons, ↓x_and1, ↓x_and2, ↓x_or1, ↓x_or2, ↓x_ioN, ↓x_ioS, ↓x_seq, ↓x_rng1, ↓x_rng2, ↓x_pop, ↓x_disp, ↓x_rev, revX_tup, x_end, ↓x_snil, ↓x_scons, ↓x_set, ↓x_par, ↓x_par3, ↓x_unp, ↓x_six, ↓x_exp, ↓x_app, ↓x_ret, ↓x_retN, ↓x_pass, ↓x_brk, ↓x_cont, ↓x_never, ↓x_if, ↓x_for, ↓x_while, refX_ref, v_get, v_getO, v_getI, v_lst, v_ift, v_iff, v_ifn, v_ifd, v_ife, v_if0, v_ifb, v_newF, v_newT, v_tup, v_add, v_sub, v_mul, v_fdiv, v_mod, v_pow, v_addT, v_addL, v_mulL, v_lt, v_le, v_gt, v_ge, v_eqI, v_neI, v_eqB, v_neB, v_ixT, v_ixL, v_slT, v_slL, v_slS, v_lenT, v_lenL, v_int, v_abs, v_max2, v_min2, v_gcd, v_tupT, v_tupL, v_lstT, v_lstL, v_tg1, v_tg2, v_tg3, t_bl, t_int, t_non, s_tup, s_lst, s_scr, isNon, CV.d, isTys, isTy, List.getElem?_cons_zero, List.getElem?_cons_succ, List.set_cons_zero, List.set_cons_succ, put_same, put_put, wipeE, tgSlots, pureSC, List.length_map, List.length_cons, List.length_nil, Bool.or_false, Bool.or_true, Bool.not_true, Bool.not_false, p_ix, p_six, p_len, p_tup, Ext_r, reduceCtorEq, decide_true, decide_false, decide_eq_true_eq, or_true, true_or, or_false, false_or, and_self, true_and, and_true, false_and, and_false, Bool.false_eq_true, Bool.true_eq_false, false_implies, true_implies, implies_true, not_true_eq_false, not_false_eq_true, startE, List.map_cons, List.map_nil, Nat.reduceAdd, Nat.reduceSub, Nat.reduceMul, List.replicate_succ, List.replicate_zero, List.cons_append, List.nil_append, decide_eq_false_iff_not, List.getElem?_map, Option.map_some, p_isL, p_appX, Bool.false_bne, Bool.true_bne, beq_self_eq_true]
        refine ⟨nums, _, _, _, _, rfl, rfl, ?_⟩
        rw [hl2, List.length_append, List.length_range]
        show _ = 40 * (done.length + 1)
        omega
    · rintro ρ M' ⟨nums, x2, x3, x4, x5, rfl, rfl, hl⟩
      try simp only [↓x_var, ↓x_cst, ↓x_glob, ↓x_tup, ↓x_lst, ↓x_bin, ↓x_neg, ↓x_not, ↓x_and, ↓x_or, ↓x_cmp, ↓x_isN, ↓x_ite, ↓x_ix, ↓x_sl, ↓x_call, ↓x_call0, ↓x_blt, ↓x_isi, ↓x_lc, ↓x_nil, ↓x_cons, ↓x_and1, ↓x_and2, ↓x_or1, ↓x_or2, ↓x_ioN, ↓x_ioS, ↓x_seq, ↓x_rng1, ↓x_rng2, ↓x_pop, ↓x_disp, ↓x_rev, revX_tup, x_end, ↓x_snil, ↓x_scons, ↓x_set, ↓x_par, ↓x_par3, ↓x_unp, ↓x_six, ↓x_exp, ↓x_app, ↓x_ret, ↓x_retN, ↓x_pass, ↓x_brk, ↓x_cont, ↓x_never, ↓x_if, ↓x_for, ↓x_while, refX_ref, v_get, v_getO, v_getI, v_lst, v_ift, v_iff, v_ifn, v_ifd, v_ife, v_if0, v_ifb, v_newF, v_newT, v_tup, v_add, v_sub, v_mul, v_fdiv, v_mod, v_pow, v_addT, v_addL, v_mulL, v_lt, v_le, v_gt, v_ge, v_eqI, v_neI, v_eqB, v_neB, v_ixT, v_ixL, v_slT, v_slL, v_slS, v_lenT, v_lenL, v_int, v_abs, v_max2, v_min2, v_gcd, v_tupT, v_tupL, v_lstT, v_lstL, v_tg1, v_tg2, v_tg3, t_bl, t_int, t_non, s_tup, s_lst, s_scr, isNon, CV.d, isTys, isTy, List.getElem?_cons_zero, List.getElem?_cons_succ, List.set_cons_zero, List.set_cons_succ, put_same, put_put, wipeE, tgSlots, pureSC, List.length_map, List.length_cons, List.length_nil, Bool.or_false, Bool.or_true, Bool.not_true, Bool.not_false, p_ix, p_six, p_len, p_tup, Ext_r, reduceCtorEq, decide_true, decide_false, decide_eq_true_eq, or_true, true_or, or_false, false_or, and_self, true_and, and_true, false_and, and_false, Bool.false_eq_true, Bool.true_eq_false, false_implies, true_implies, implies_true, not_true_eq_false, not_false_eq_true, startE, List.map_cons, List.map_nil, Nat.reduceAdd, Nat.reduceSub, Nat.reduceMul, List.replicate_succ, List.replicate_zero, List.cons_append, List.nil_append, decide_eq_false_iff_not, List.getElem?_map, Option.map_some, p_isL, p_appX, Bool.false_bne, Bool.true_bne, beq_self_eq_true,  anySC]
      refine ⟨by decide, by decide, fun a ha => ?_⟩
      have hap : a ≠ p := by rintro rfl; rw [put_same] at ha; cases ha
      exact ⟨p, a, nums, hp, by rw [put_ne hap] at ha; exact ha, hap, rfl, hl, rfl⟩
  · rintro d M' ⟨p, a, nums, hp, ha, hap, rfl, hl, rfl⟩
    have hS : Sta (St0 nums 0) := ⟨nums, 0, rfl, by decide, by omega, by omega⟩
    have cm : ClM (put M a (St0 nums 0)) := c.put hS.cl
    refine ⟨put M a (St0 nums 0), .ref a, ⟨put_up, fun b u e => ?_⟩, .ref put_same, q a _ ha hS⟩
    by_cases hb : b = a
    · subst hb
      rw [put_same] at e
      cases e
      refine ⟨_, put_same, .dK (.cons ⟨rfl, .frz (by rw [put_ne (Ne.symm hap)]; exact hp) (by rw [put_ne (Ne.symm hap)]; exact put_same) (Cls.frz .ints)⟩ (.cons ⟨rfl, .int _⟩ .nil))⟩
    · have e' := e
      rw [put_ne hb] at e
      have hbp : b ≠ p := by rintro rfl; rw [hp] at e; cases e
      exact ⟨u, by rw [put_ne hb, put_ne hbp]; exact e, (cm b u e').frz⟩
/-! ### the same -/
mutual
def smOk : Nat → D → Bool
  | 0, _ => false
  | n + 1, .non => true
  | n + 1, .bl _ => true
  | n + 1, .int _ => true
  | n + 1, .str s => PyData.strOk s
  | n + 1, .tup xs => decide (xs.length ≤ 1000) && smOks n xs
  | n + 1, .lst xs => decide (xs.length ≤ 1000) && smOks n xs
  | n + 1, _ => false
def smOks : Nat → List D → Bool
  | _, [] => true
  | n, x :: xs => smOk n x && smOks n xs
end
theorem smOks_mem {n : Nat} : ∀ {xs : List D}, smOks n xs = true → ∀ x ∈ xs, smOk n x = true
  | y :: xs, h, x, m => by
    unfold smOks at h
    obtain ⟨h1, h2⟩ := and2 h
    rcases List.mem_cons.mp m with rfl | m
    · exact h1
    · exact smOks_mem h2 x m
def sp_same (n : Nat) : DSp := pf 2 (fun d : D => [d, d]) (fun d => smOk n d = true) (fun _ => .bl true)
theorem b_same_seq {M : Mem} {xs : List D} {n : Nat} {d : D} {it : Src} (hl : xs.length ≤ 1000) (h : ∀ x ∈ xs, smOk n x = true) (hsrc : it.xs = (List.range xs.length).map fun k : Nat => D.int k) (hk : it.keep M)
    (hx : ∀ (k : Nat) (Q : D → Mem → Prop), ixX d (.int k) M Q = getO xs[k]? fun d => Q d M) (x2 x3 : Option D) {ρ : Env} (hρ : ρ = [some d, some d, x2, x3]) {R : D → Mem → Prop} (hR : R (.bl true) M) :
    lcX [sp_same n] [] false (.nm 3) (.call 0 (.cons (.ix (.var 0) (.var 3)) (.cons (.ix (.var 1) (.var 3)) .nil))) .none it ρ M fun y M1 => bltX false .all [y] M1 R := by
  subst hρ
  refine lc_pure (fun k : Nat => .int k) (fun _ => .bl true) (List.range xs.length) hsrc (by rw [List.length_range]; unfold sizeLine; omega) hk (fun k hk => ?_) ?_
  · have hk' := List.mem_range.mp hk
    have e1 : xs[k]? = some (xs[k]'hk') := List.getElem?_eq_getElem hk'
    try simp only [↓x_var, ↓x_cst, ↓x_glob, ↓x_tup, ↓x_lst, ↓x_bin, ↓x_neg, ↓x_not, ↓x_and, ↓x_or, ↓x_cmp, ↓x_isN, ↓x_ite, ↓x_ix, ↓x_sl, ↓x_call, ↓x_call0, ↓x_blt, ↓x_isi, ↓x_lc, ↓x_nil, ↓x_cons, ↓x_and1, ↓x_and2, ↓x_or1, ↓x_or2, ↓x_ioN, ↓x_ioS, ↓x_seq, ↓x_rng1, ↓x_rng2, ↓x_pop, ↓x_disp, ↓x_rev, revX_tup, x_end, ↓x_snil, ↓x_scons, ↓x_set, ↓x_par, ↓x_par3, ↓x_unp, ↓x_six, ↓x_exp, ↓x_app, ↓x_ret, ↓x_retN, ↓x_pass, ↓x_brk, ↓x_cont, ↓x_never, ↓x_if, ↓x_for, ↓x_while, refX_ref, v_get, v_getO, v_getI, v_lst, v_ift, v_iff, v_ifn, v_ifd, v_ife, v_if0, v_ifb, v_newF, v_newT, v_tup, v_add, v_sub, v_mul, v_fdiv, v_mod, v_pow, v_addT, v_addL, v_mulL, v_lt, v_le, v_gt, v_ge, v_eqI, v_neI, v_eqB, v_neB, v_ixT, v_ixL, v_slT, v_slL, v_slS, v_lenT, v_lenL, v_int, v_abs, v_max2, v_min2, v_gcd, v_tupT, v_tupL, v_lstT, v_lstL, v_tg1, v_tg2, v_tg3, t_bl, t_int, t_non, s_tup, s_lst, s_scr, isNon, CV.d, isTys, isTy, List.getElem?_cons_zero, List.getElem?_cons_succ, List.set_cons_zero, List.set_cons_succ, put_same, put_put, wipeE, tgSlots, pureSC, List.length_map, List.length_cons, List.length_nil, Bool.or_false, Bool.or_true, Bool.not_true, Bool.not_false, p_ix, p_six, p_len, p_tup, Ext_r, reduceCtorEq, decide_true, decide_false, decide_eq_true_eq, or_true, true_or, or_false, false_or, and_self, true_and, and_true, false_and, and_false, Bool.false_eq_true, Bool.true_eq_false, false_implies, true_implies, implies_true, not_true_eq_false, not_false_eq_true, startE, List.map_cons, List.map_nil, Nat.reduceAdd, Nat.reduceSub, Nat.reduceMul, List.replicate_succ, List.replicate_zero, List.cons_append, List.nil_append, decide_eq_false_iff_not, List.getElem?_map, Option.map_some, p_isL, p_appX, Bool.false_bne, Bool.true_bne, beq_self_eq_true,  hx, e1]
    exact call_pf (xs[k]'hk') rfl (h _ (List.getElem_mem _)) ⟨rfl, rfl⟩
  · try simp only [↓x_var, ↓x_cst, ↓x_glob, ↓x_tup, ↓x_lst, ↓x_bin, ↓x_neg, ↓x_not, ↓x_and, ↓x_or, ↓x_cmp, ↓x_isN, ↓x_ite, ↓x_ix, ↓x_sl, ↓x_call, ↓x_call0, ↓x_blt, ↓x_isi, ↓x_lc, ↓x_nil, ↓x_cons, ↓x_and1, ↓x_and2, ↓x_or1, ↓x_or2, ↓x_ioN, ↓x_ioS, ↓x_seq, ↓x_rng1, ↓x_rng2, ↓x_pop, ↓x_disp, ↓x_rev, revX_tup, x_end, ↓x_snil, ↓x_scons, ↓x_set, ↓x_par, ↓x_par3, ↓x_unp, ↓x_six, ↓x_exp, ↓x_app, ↓x_ret, ↓x_retN, ↓x_pass, ↓x_brk, ↓x_cont, ↓x_never, ↓x_if, ↓x_for, ↓x_while, refX_ref, v_get, v_getO, v_getI, v_lst, v_ift, v_iff, v_ifn, v_ifd, v_ife, v_if0, v_ifb, v_newF, v_newT, v_tup, v_add, v_sub, v_mul, v_fdiv, v_mod, v_pow, v_addT, v_addL, v_mulL, v_lt, v_le, v_gt, v_ge, v_eqI, v_neI, v_eqB, v_neB, v_ixT, v_ixL, v_slT, v_slL, v_slS, v_lenT, v_lenL, v_int, v_abs, v_max2, v_min2, v_gcd, v_tupT, v_tupL, v_lstT, v_lstL, v_tg1, v_tg2, v_tg3, t_bl, t_int, t_non, s_tup, s_lst, s_scr, isNon, CV.d, isTys, isTy, List.getElem?_cons_zero, List.getElem?_cons_succ, List.set_cons_zero, List.set_cons_succ, put_same, put_put, wipeE, tgSlots, pureSC, List.length_map, List.length_cons, List.length_nil, Bool.or_false, Bool.or_true, Bool.not_true, Bool.not_false, p_ix, p_six, p_len, p_tup, Ext_r, reduceCtorEq, decide_true, decide_false, decide_eq_true_eq, or_true, true_or, or_false, false_or, and_self, true_and, and_true, false_and, and_false, Bool.false_eq_true, Bool.true_eq_false, false_implies, true_implies, implies_true, not_true_eq_false, not_false_eq_true, startE, List.map_cons, List.map_nil, Nat.reduceAdd, Nat.reduceSub, Nat.reduceMul, List.replicate_succ, List.replicate_zero, List.cons_append, List.nil_append, decide_eq_false_iff_not, List.getElem?_map, Option.map_some, p_isL, p_appX, Bool.false_bne, Bool.true_bne, beq_self_eq_true]
    refine v_all (bs := (List.range xs.length).map fun _ => true) (by rw [List.map_map]; rfl) ?_
    have : ((List.range xs.length).map fun _ => true).all id = true := by simp
    rw [this]
    exact hR
theorem b__law_same (n : Nat) : BodyOk [sp_same n] [] 4 ir__law_same (sp_same (n + 1)) := by
  refine body_pf (fun a M _ => .bl _) fun d M h _ => ?_
  unfold ir__law_same
  cases d with
  | tup xs =>
    unfold smOk at h
    obtain ⟨h1, h2⟩ := and2 h
    have h1 := of_decide_eq_true h1
    try simp only [↓x_var, ↓x_cst, ↓x_glob, ↓x_tup, ↓x_lst, ↓x_bin, ↓x_neg, ↓x_not, ↓x_and, ↓x_or, ↓x_cmp, ↓x_isN, ↓x_ite, ↓x_ix, ↓x_sl, ↓x_call, ↓x_call0, ↓x_blt, ↓x_isi, ↓x_lc, ↓x_nil, ↓x_cons, ↓x_and1, ↓x_and2, ↓x_or1, ↓x_or2, ↓x_ioN, ↓x_ioS, ↓x_seq, ↓x_rng1, ↓x_rng2, ↓x_pop, ↓x_disp, ↓x_rev, revX_tup, x_end, ↓x_snil, ↓x_scons, ↓x_set, ↓x_par, ↓x_par3, ↓x_unp, ↓x_six, ↓x_exp, ↓x_app, ↓x_ret, ↓x_retN, ↓x_pass, ↓x_brk, ↓x_cont, ↓x_never, ↓x_if, ↓x_for, ↓x_while, refX_ref, v_get, v_getO, v_getI, v_lst, v_ift, v_iff, v_ifn, v_ifd, v_ife, v_if0, v_ifb, v_newF, v_newT, v_tup, v_add, v_sub, v_mul, v_fdiv, v_mod, v_pow, v_addT, v_addL, v_mulL, v_lt, v_le, v_gt, v_ge, v_eqI, v_neI, v_eqB, v_neB, v_ixT, v_ixL, v_slT, v_slL, v_slS, v_lenT, v_lenL, v_int, v_abs, v_max2, v_min2, v_gcd, v_tupT, v_tupL, v_lstT, v_lstL, v_tg1, v_tg2, v_tg3, t_bl, t_int, t_non, s_tup, s_lst, s_scr, isNon, CV.d, isTys, isTy, List.getElem?_cons_zero, List.getElem?_cons_succ, List.set_cons_zero, List.set_cons_succ, put_same, put_put, wipeE, tgSlots, pureSC, List.length_map, List.length_cons, List.length_nil, Bool.or_false, Bool.or_true, Bool.not_true, Bool.not_false, p_ix, p_six, p_len, p_tup, Ext_r, reduceCtorEq, decide_true, decide_false, decide_eq_true_eq, or_true, true_or, or_false, false_or, and_self, true_and, and_true, false_and, and_false, Bool.false_eq_true, Bool.true_eq_false, false_implies, true_implies, implies_true, not_true_eq_false, not_false_eq_true, startE, List.map_cons, List.map_nil, Nat.reduceAdd, Nat.reduceSub, Nat.reduceMul, List.replicate_succ, List.replicate_zero, List.cons_append, List.nil_append, decide_eq_false_iff_not, List.getElem?_map, Option.map_some, p_isL, p_appX, Bool.false_bne, Bool.true_bne, beq_self_eq_true]
    exact ⟨by omega, b_same_seq h1 (smOks_mem h2) (by rw [Int.toNat_natCast]) trivial (fun k Q => by rw [v_ixT, atI_nat]) none none rfl ⟨rfl, .refl⟩⟩
  | lst xs =>
    unfold smOk at h
    obtain ⟨h1, h2⟩ := and2 h
    have h1 := of_decide_eq_true h1
    try simp only [↓x_var, ↓x_cst, ↓x_glob, ↓x_tup, ↓x_lst, ↓x_bin, ↓x_neg, ↓x_not, ↓x_and, ↓x_or, ↓x_cmp, ↓x_isN, ↓x_ite, ↓x_ix, ↓x_sl, ↓x_call, ↓x_call0, ↓x_blt, ↓x_isi, ↓x_lc, ↓x_nil, ↓x_cons, ↓x_and1, ↓x_and2, ↓x_or1, ↓x_or2, ↓x_ioN, ↓x_ioS, ↓x_seq, ↓x_rng1, ↓x_rng2, ↓x_pop, ↓x_disp, ↓x_rev, revX_tup, x_end, ↓x_snil, ↓x_scons, ↓x_set, ↓x_par, ↓x_par3, ↓x_unp, ↓x_six, ↓x_exp, ↓x_app, ↓x_ret, ↓x_retN, ↓x_pass, ↓x_brk, ↓x_cont, ↓x_never, ↓x_if, ↓x_for, ↓x_while, refX_ref, v_get, v_getO, v_getI, v_lst, v_ift, v_iff, v_ifn, v_ifd, v_ife, v_if0, v_ifb, v_newF, v_newT, v_tup, v_add, v_sub, v_mul, v_fdiv, v_mod, v_pow, v_addT, v_addL, v_mulL, v_lt, v_le, v_gt, v_ge, v_eqI, v_neI, v_eqB, v_neB, v_ixT, v_ixL, v_slT, v_slL, v_slS, v_lenT, v_lenL, v_int, v_abs, v_max2, v_min2, v_gcd, v_tupT, v_tupL, v_lstT, v_lstL, v_tg1, v_tg2, v_tg3, t_bl, t_int, t_non, s_tup, s_lst, s_scr, isNon, CV.d, isTys, isTy, List.getElem?_cons_zero, List.getElem?_cons_succ, List.set_cons_zero, List.set_cons_succ, put_same, put_put, wipeE, tgSlots, pureSC, List.length_map, List.length_cons, List.length_nil, Bool.or_false, Bool.or_true, Bool.not_true, Bool.not_false, p_ix, p_six, p_len, p_tup, Ext_r, reduceCtorEq, decide_true, decide_false, decide_eq_true_eq, or_true, true_or, or_false, false_or, and_self, true_and, and_true, false_and, and_false, Bool.false_eq_true, Bool.true_eq_false, false_implies, true_implies, implies_true, not_true_eq_false, not_false_eq_true, startE, List.map_cons, List.map_nil, Nat.reduceAdd, Nat.reduceSub, Nat.reduceMul, List.replicate_succ, List.replicate_zero, List.cons_append, List.nil_append, decide_eq_false_iff_not, List.getElem?_map, Option.map_some, p_isL, p_appX, Bool.false_bne, Bool.true_bne, beq_self_eq_true]
    exact ⟨by omega, b_same_seq h1 (smOks_mem h2) (by rw [Int.toNat_natCast]) trivial (fun k Q => by rw [v_ixL, atI_nat]) none none rfl ⟨rfl, .refl⟩⟩
  | str s =>
    unfold smOk at h
    try simp only [↓x_var, ↓x_cst, ↓x_glob, ↓x_tup, ↓x_lst, ↓x_bin, ↓x_neg, ↓x_not, ↓x_and, ↓x_or, ↓x_cmp, ↓x_isN, ↓x_ite, ↓x_ix, ↓x_sl, ↓x_call, ↓x_call0, ↓x_blt, ↓x_isi, ↓x_lc, ↓x_nil, ↓x_cons, ↓x_and1, ↓x_and2, ↓x_or1, ↓x_or2, ↓x_ioN, ↓x_ioS, ↓x_seq, ↓x_rng1, ↓x_rng2, ↓x_pop, ↓x_disp, ↓x_rev, revX_tup, x_end, ↓x_snil, ↓x_scons, ↓x_set, ↓x_par, ↓x_par3, ↓x_unp, ↓x_six, ↓x_exp, ↓x_app, ↓x_ret, ↓x_retN, ↓x_pass, ↓x_brk, ↓x_cont, ↓x_never, ↓x_if, ↓x_for, ↓x_while, refX_ref, v_get, v_getO, v_getI, v_lst, v_ift, v_iff, v_ifn, v_ifd, v_ife, v_if0, v_ifb, v_newF, v_newT, v_tup, v_add, v_sub, v_mul, v_fdiv, v_mod, v_pow, v_addT, v_addL, v_mulL, v_lt, v_le, v_gt, v_ge, v_eqI, v_neI, v_eqB, v_neB, v_ixT, v_ixL, v_slT, v_slL, v_slS, v_lenT, v_lenL, v_int, v_abs, v_max2, v_min2, v_gcd, v_tupT, v_tupL, v_lstT, v_lstL, v_tg1, v_tg2, v_tg3, t_bl, t_int, t_non, s_tup, s_lst, s_scr, isNon, CV.d, isTys, isTy, List.getElem?_cons_zero, List.getElem?_cons_succ, List.set_cons_zero, List.set_cons_succ, put_same, put_put, wipeE, tgSlots, pureSC, List.length_map, List.length_cons, List.length_nil, Bool.or_false, Bool.or_true, Bool.not_true, Bool.not_false, p_ix, p_six, p_len, p_tup, Ext_r, reduceCtorEq, decide_true, decide_false, decide_eq_true_eq, or_true, true_or, or_false, false_or, and_self, true_and, and_true, false_and, and_false, Bool.false_eq_true, Bool.true_eq_false, false_implies, true_implies, implies_true, not_true_eq_false, not_false_eq_true, startE, List.map_cons, List.map_nil, Nat.reduceAdd, Nat.reduceSub, Nat.reduceMul, List.replicate_succ, List.replicate_zero, List.cons_append, List.nil_append, decide_eq_false_iff_not, List.getElem?_map, Option.map_some, p_isL, p_appX, Bool.false_bne, Bool.true_bne, beq_self_eq_true]
    exact ⟨h, h, by show D.bl (s == s) = _; simp, .refl⟩
  | int s => try simp only [↓x_var, ↓x_cst, ↓x_glob, ↓x_tup, ↓x_lst, ↓x_bin, ↓x_neg, ↓x_not, ↓x_and, ↓x_or, ↓x_cmp, ↓x_isN, ↓x_ite, ↓x_ix, ↓x_sl, ↓x_call, ↓x_call0, ↓x_blt, ↓x_isi, ↓x_lc, ↓x_nil, ↓x_cons, ↓x_and1, ↓x_and2, ↓x_or1, ↓x_or2, ↓x_ioN, ↓x_ioS, ↓x_seq, ↓x_rng1, ↓x_rng2, ↓x_pop, ↓x_disp, ↓x_rev, revX_tup, x_end, ↓x_snil, ↓x_scons, ↓x_set, ↓x_par, ↓x_par3, ↓x_unp, ↓x_six, ↓x_exp, ↓x_app, ↓x_ret, ↓x_retN, ↓x_pass, ↓x_brk, ↓x_cont, ↓x_never, ↓x_if, ↓x_for, ↓x_while, refX_ref, v_get, v_getO, v_getI, v_lst, v_ift, v_iff, v_ifn, v_ifd, v_ife, v_if0, v_ifb, v_newF, v_newT, v_tup, v_add, v_sub, v_mul, v_fdiv, v_mod, v_pow, v_addT, v_addL, v_mulL, v_lt, v_le, v_gt, v_ge, v_eqI, v_neI, v_eqB, v_neB, v_ixT, v_ixL, v_slT, v_slL, v_slS, v_lenT, v_lenL, v_int, v_abs, v_max2, v_min2, v_gcd, v_tupT, v_tupL, v_lstT, v_lstL, v_tg1, v_tg2, v_tg3, t_bl, t_int, t_non, s_tup, s_lst, s_scr, isNon, CV.d, isTys, isTy, List.getElem?_cons_zero, List.getElem?_cons_succ, List.set_cons_zero, List.set_cons_succ, put_same, put_put, wipeE, tgSlots, pureSC, List.length_map, List.length_cons, List.length_nil, Bool.or_false, Bool.or_true, Bool.not_true, Bool.not_false, p_ix, p_six, p_len, p_tup, Ext_r, reduceCtorEq, decide_true, decide_false, decide_eq_true_eq, or_true, true_or, or_false, false_or, and_self, true_and, and_true, false_and, and_false, Bool.false_eq_true, Bool.true_eq_false, false_implies, true_implies, implies_true, not_true_eq_false, not_false_eq_true, startE, List.map_cons, List.map_nil, Nat.reduceAdd, Nat.reduceSub, Nat.reduceMul, List.replicate_succ, List.replicate_zero, List.cons_append, List.nil_append, decide_eq_false_iff_not, List.getElem?_map, Option.map_some, p_isL, p_appX, Bool.false_bne, Bool.true_bne, beq_self_eq_true]
  | non => try simp only [↓x_var, ↓x_cst, ↓x_glob, ↓x_tup, ↓x_lst, ↓x_bin, ↓x_neg, ↓x_not, ↓x_and, ↓x_or, ↓x_cmp, ↓x_isN, ↓x_ite, ↓x_ix, ↓x_sl, ↓x_call, ↓x_call0, ↓x_blt, ↓x_isi, ↓x_lc, ↓x_nil, ↓x_cons, ↓x_and1, ↓x_and2, ↓x_or1, ↓x_or2, ↓x_ioN, ↓x_ioS, ↓x_seq, ↓x_rng1, ↓x_rng2, ↓x_pop, ↓x_disp, ↓x_rev, revX_tup, x_end, ↓x_snil, ↓x_scons, ↓x_set, ↓x_par, ↓x_par3, ↓x_unp, ↓x_six, ↓x_exp, ↓x_app, ↓x_ret, ↓x_retN, ↓x_pass, ↓x_brk, ↓x_cont, ↓x_never, ↓x_if, ↓x_for, ↓x_while, refX_ref, v_get, v_getO, v_getI, v_lst, v_ift, v_iff, v_ifn, v_ifd, v_ife, v_if0, v_ifb, v_newF, v_newT, v_tup, v_add, v_sub, v_mul, v_fdiv, v_mod, v_pow, v_addT, v_addL, v_mulL, v_lt, v_le, v_gt, v_ge, v_eqI, v_neI, v_eqB, v_neB, v_ixT, v_ixL, v_slT, v_slL, v_slS, v_lenT, v_lenL, v_int, v_abs, v_max2, v_min2, v_gcd, v_tupT, v_tupL, v_lstT, v_lstL, v_tg1, v_tg2, v_tg3, t_bl, t_int, t_non, s_tup, s_lst, s_scr, isNon, CV.d, isTys, isTy, List.getElem?_cons_zero, List.getElem?_cons_succ, List.set_cons_zero, List.set_cons_succ, put_same, put_put, wipeE, tgSlots, pureSC, List.length_map, List.length_cons, List.length_nil, Bool.or_false, Bool.or_true, Bool.not_true, Bool.not_false, p_ix, p_six, p_len, p_tup, Ext_r, reduceCtorEq, decide_true, decide_false, decide_eq_true_eq, or_true, true_or, or_false, false_or, and_self, true_and, and_true, false_and, and_false, Bool.false_eq_true, Bool.true_eq_false, false_implies, true_implies, implies_true, not_true_eq_false, not_false_eq_true, startE, List.map_cons, List.map_nil, Nat.reduceAdd, Nat.reduceSub, Nat.reduceMul, List.replicate_succ, List.replicate_zero, List.cons_append, List.nil_append, decide_eq_false_iff_not, List.getElem?_map, Option.map_some, p_isL, p_appX, Bool.false_bne, Bool.true_bne, beq_self_eq_true]
  | bl b => try simp only [↓x_var, ↓x_cst, ↓x_glob, ↓x_tup, ↓x_lst, ↓x_bin, ↓x_neg, ↓x_not, ↓x_and, ↓x_or, ↓x_cmp, ↓x_isN, ↓x_ite, ↓x_ix, ↓x_sl, ↓x_call, ↓x_call0, ↓x_blt, ↓x_isi, ↓x_lc, ↓x_nil, ↓x_cons, ↓x_and1, ↓x_and2, ↓x_or1, ↓x_or2, ↓x_ioN, ↓x_ioS, ↓x_seq, ↓x_rng1, ↓x_rng2, ↓x_pop, ↓x_disp, ↓x_rev, revX_tup, x_end, ↓x_snil, ↓x_scons, ↓x_set, ↓x_par, ↓x_par3, ↓x_unp, ↓x_six, ↓x_exp, ↓x_app, ↓x_ret, ↓x_retN, ↓x_pass, ↓x_brk, ↓x_cont, ↓x_never, ↓x_if, ↓x_for, ↓x_while, refX_ref, v_get, v_getO, v_getI, v_lst, v_ift, v_iff, v_ifn, v_ifd, v_ife, v_if0, v_ifb, v_newF, v_newT, v_tup, v_add, v_sub, v_mul, v_fdiv, v_mod, v_pow, v_addT, v_addL, v_mulL, v_lt, v_le, v_gt, v_ge, v_eqI, v_neI, v_eqB, v_neB, v_ixT, v_ixL, v_slT, v_slL, v_slS, v_lenT, v_lenL, v_int, v_abs, v_max2, v_min2, v_gcd, v_tupT, v_tupL, v_lstT, v_lstL, v_tg1, v_tg2, v_tg3, t_bl, t_int, t_non, s_tup, s_lst, s_scr, isNon, CV.d, isTys, isTy, List.getElem?_cons_zero, List.getElem?_cons_succ, List.set_cons_zero, List.set_cons_succ, put_same, put_put, wipeE, tgSlots, pureSC, List.length_map, List.length_cons, List.length_nil, Bool.or_false, Bool.or_true, Bool.not_true, Bool.not_false, p_ix, p_six, p_len, p_tup, Ext_r, reduceCtorEq, decide_true, decide_false, decide_eq_true_eq, or_true, true_or, or_false, false_or, and_self, true_and, and_true, false_and, and_false, Bool.false_eq_true, Bool.true_eq_false, false_implies, true_implies, implies_true, not_true_eq_false, not_false_eq_true, startE, List.map_cons, List.map_nil, Nat.reduceAdd, Nat.reduceSub, Nat.reduceMul, List.replicate_succ, List.replicate_zero, List.cons_append, List.nil_append, decide_eq_false_iff_not, List.getElem?_map, Option.map_some, p_isL, p_appX, Bool.false_bne, Bool.true_bne, beq_self_eq_true]
  | _ => (unfold smOk at h; cases h)
end DL
set_option Elab.async false
set_option linter.all false
set_option maxRecDepth 100000
set_option maxHeartbeats 4000000
set_option exponentiation.threshold 100000
namespace DL
open PySem PySem.Spec PyProof.Rows L2
theorem same_ints {n : Nat} {xs : List Int} (h : xs.length ≤ 1000) : smOk (n + 2) (tp xs) = true := by
  unfold smOk
  rw [List.length_map, decide_eq_true h, Bool.true_and]
  induction xs with
  | nil => rfl
  | cons x r ih =>
    show (smOk (n + 1) (.int x) && smOks (n + 1) (r.map D.int)) = true
    rw [ih (by rw [List.length_cons] at h; omega)]
    rfl
/-! ### content of multiples -/
theorem contG_dvd : ∀ (xs : List Int) (g : Nat), ((xs.foldl (fun g x => Int.gcd g x) g : Nat) ∣ g) ∧ ∀ x ∈ xs, ((xs.foldl (fun g x => Int.gcd g x) g : Nat) : Int) ∣ x
  | [], g => ⟨Nat.dvd_refl g, fun x h => by cases h⟩
  | a :: r, g => by
    obtain ⟨h1, h2⟩ := contG_dvd r (Int.gcd g a)
    have h3 : Int.gcd g a ∣ g := Nat.gcd_dvd_left g a.natAbs
    have h4 : ((Int.gcd g a : Nat) : Int) ∣ a := Int.gcd_dvd_right ..
    refine ⟨Nat.dvd_trans h1 h3, fun x hx => ?_⟩
    rcases List.mem_cons.mp hx with rfl | m
    · exact Int.dvd_trans (Int.natCast_dvd_natCast.mpr h1) h4
    · exact h2 x m
theorem contG_mul {c : Int} : ∀ (xs : List Int) (g : Nat), (xs.map (c * ·)).foldl (fun g x => Int.gcd g x) (c.natAbs * g) = c.natAbs * xs.foldl (fun g x => Int.gcd g x) g
  | [], g => rfl
  | a :: r, g => by
    have e : Int.gcd ((c.natAbs * g : Nat) : Int) (c * a) = c.natAbs * Int.gcd g a := by
      show Nat.gcd (c.natAbs * g) (c * a).natAbs = c.natAbs * Nat.gcd g a.natAbs
      rw [Int.natAbs_mul, Nat.gcd_mul_left]
    show (r.map (c * ·)).foldl (fun g x => Int.gcd g x) (Int.gcd ((c.natAbs * g : Nat) : Int) (c * a)) = _
    rw [e, contG_mul r]
    rfl
theorem last_ne {xs : List Int} (h : Trd xs) (h0 : 0 < xs.length) : ∃ l, xs.getLast? = some l ∧ l ≠ 0 ∧ l ∈ xs := by
  have ne : xs ≠ [] := by rintro rfl; simp at h0
  refine ⟨xs.getLast ne, List.getLast?_eq_some_getLast ne, fun z => ?_, List.getLast_mem ne⟩
  have e := List.dropLast_concat_getLast ne
  rw [z] at e
  have h' : trim xs = xs := h
  rw [← e, trim_zero] at h'
  have := trim_len (xs := xs.dropLast)
  rw [h'] at this
  simp at this
  omega
theorem contG_ne {xs : List Int} (h : Trd xs) (h0 : 0 < xs.length) : contG xs ≠ 0 := by
  obtain ⟨l, _, l0, lm⟩ := last_ne h h0
  intro z
  have := (contG_dvd xs 0).2 l lm
  have e : xs.foldl (fun g x => Int.gcd g x) 0 = 0 := z
  rw [e] at this
  exact l0 (Int.zero_dvd.mp this)
theorem contG_bit {xs : List Int} {k : Nat} (h : Trd xs) (h0 : 0 < xs.length) (hb : ∀ x ∈ xs, Bit k x) : Bit k (contG xs : Nat) := by
  obtain ⟨l, _, l0, lm⟩ := last_ne h h0
  have h1 := (contG_dvd xs 0).2 l lm
  have h2 := Int.natAbs_dvd_natAbs.mpr h1
  have h3 := Nat.le_of_dvd (by omega) h2
  exact Nat.lt_of_le_of_lt h3 (hb l lm)
theorem cont_ne {xs : List Int} (h : Trd xs) (h0 : 0 < xs.length) : cont xs ≠ 0 := by
  have := contG_ne h h0
  unfold cont
  split <;> omega
theorem cont_bit {xs : List Int} {k : Nat} (h : Trd xs) (h0 : 0 < xs.length) (hb : ∀ x ∈ xs, Bit k x) : Bit k (cont xs) := by
  have := contG_bit h h0 hb
  unfold cont
  split
  · exact this.neg
  · exact this
theorem cont_neg {xs : List Int} (h : Trd xs) (h0 : 0 < xs.length) : cont (xs.map (-6 * ·)) = -6 * cont xs := by
  obtain ⟨l, e, l0, lm⟩ := last_ne h h0
  have e2 : contG (xs.map (-6 * ·)) = 6 * contG xs := contG_mul (c := -6) xs 0
  unfold cont
  rw [e2, List.length_map, List.getLast?_map, e]
  simp only [Option.map_some, Option.getD_some]
  by_cases hl : l < 0
  · rw [if_neg (by omega), if_pos ⟨h0, hl⟩]; omega
  · rw [if_pos ⟨h0, by omega⟩, if_neg (by omega)]; omega
theorem fdiv_neg6 {x c : Int} : (-6 * x).fdiv (-6 * c) = x.fdiv c := by
  rw [show -6 * x = -(6 * x) by omega, show -6 * c = -(6 * c) by omega, Int.neg_fdiv_neg]
  exact Int.mul_fdiv_mul_of_pos _ _ (by decide)
theorem plain_neg {xs : List Int} (h : Trd xs) (h0 : 0 < xs.length) : (xs.map (-6 * ·)).map (·.fdiv (cont (xs.map (-6 * ·)))) = xs.map (·.fdiv (cont xs)) := by
  rw [cont_neg h h0, List.map_map]
  congr 1
  funext x
  exact fdiv_neg6
theorem low_mul {d a b : Int} (hd : 0 < d) (hb : b ≠ 0) : lowF (d * a) (d * b) = lowF a b := by
  have e : lowN (d * a) (d * b) = d * lowN a b := by
    unfold lowN
    have g : (Int.gcd (d * a) (d * b) : Int) = d * Int.gcd a b := by
      have : Int.gcd (d * a) (d * b) = d.natAbs * Int.gcd a b := Int.gcd_mul_left ..
      rw [this, Int.natCast_mul]
      congr 1
      omega
    rw [g]
    by_cases h : b < 0
    · rw [if_pos h, if_pos (Int.mul_neg_of_pos_of_neg hd h), Int.mul_neg]
    · rw [if_neg h, if_neg]
      have := Int.mul_nonneg (Int.le_of_lt hd) (show 0 ≤ b by omega)
      omega
  unfold lowF
  rw [e, Int.mul_fdiv_mul_of_pos _ _ hd, Int.mul_fdiv_mul_of_pos _ _ hd]
theorem low_ok {n d : Int} (hd : 0 < d) (hn : n.natAbs < 2 ^ 10) (hd2 : d < 2 ^ 10) : ∃ p q : Int, lowF n d = .tup [.int p, .int q] ∧ Bit 64 p ∧ Bit 64 q ∧ 0 < q := by
  refine ⟨_, _, rfl, ?_⟩
  have e : lowN n d = (Int.gcd n d : Int) := if_neg (by omega)
  have g0 := gcd_ne (n := n) (d := d) (by omega)
  have gp : 0 < (Int.gcd n d : Int) := by omega
  rw [e]
  generalize hg : (Int.gcd n d : Int) = g at *
  have d1 : g ∣ n := hg ▸ Int.gcd_dvd_left ..
  have d2 : g ∣ d := hg ▸ Int.gcd_dvd_right ..
  obtain ⟨p, rfl⟩ := d1
  obtain ⟨q, rfl⟩ := d2
  rw [Int.mul_fdiv_cancel_left _ g0, Int.mul_fdiv_cancel_left _ g0]
  have q0 : 0 < q := by
    rcases Int.lt_trichotomy q 0 with h | h | h
    · have := Int.mul_neg_of_pos_of_neg gp h; omega
    · subst h; simp at hd
    · exact h
  have le : ∀ x : Int, x.natAbs ≤ (g * x).natAbs := fun x => by
    rw [Int.natAbs_mul]
    exact Nat.le_mul_of_pos_left _ (by omega)
  have l1 := le p
  have l2 := le q
  refine ⟨show p.natAbs < 2 ^ 64 by omega, show q.natAbs < 2 ^ 64 by omega, q0⟩
theorem at_val {xs : List Int} {n d : Int} (hd : 0 < d) : lowF (topR n d xs) (d ^ (xs.length - 1)) = lowF (d * topR n d xs) (d ^ xs.length) := by
  cases xs with
  | nil => show lowF 0 (d ^ 0) = lowF (d * 0) (d ^ 0); rw [Int.mul_zero]
  | cons x r =>
    have e : d ^ (x :: r).length = d * d ^ ((x :: r).length - 1) := by
      rw [List.length_cons, Nat.add_sub_cancel, Int.pow_succ, Int.mul_comm]
    rw [e, low_mul hd (Int.pow_ne_zero (by omega))]
theorem call_trimM {α : Type} (f : α → Int) (l : List α) {M : Mem} {Q : D → Mem → Prop} {E : Exn → Mem → Prop} (hl : l.length < 100000) (q : Q (tp (trim (l.map f))) M) : callV (some sp_trim) [.lst (l.map fun k => .int (f k))] M Q E :=
  call_trim (l.map f) (by rw [List.length_map]; exact hl) q (.lst (l.map fun k => .int (f k))) (by unfold rs li; rw [List.map_map]; rfl)
instance {xs : List Int} : Decidable (Trd xs) := inferInstanceAs (Decidable (trim xs = xs))
theorem bl {xs : List Int} {k : Nat} (h : ∀ z ∈ xs, Bit 20 z) (e : 20 ≤ k) : ∀ z ∈ xs, Bit k z := fun z hz => (h z hz).up e
theorem call_same {n : Nat} {x y : D} {M : Mem} {Q : D → Mem → Prop} {E : Exn → Mem → Prop} (d : D) (hx : x = d) (hy : y = d) (h : smOk n d = true) (q : Q (.bl true) M) : callV (some (sp_same n)) [x, y] M Q E := by
  subst hx hy
  exact ⟨_, rfl, rfl, _, rfl, h, q⟩
abbrev ΓL : List DSp := [sp_draws, sp_poly, sp_next, sp_prod, sp_trim, sp_at, sp_cont, sp_added, sp_taken, sp_prod, sp_raised, sp_scaled, sp_slope, sp_cont, sp_same 3, sp_plain, sp_low, sp_value, sp_poly_at, sp_pick, sp_is, sp_is]
def body5 : ISs := match ir_law with
  | .cons _ (.cons (.for _ _ b) _) => b
  | _ => .nil
def rest5 : ISs := match body5 with
  | .cons _ (.cons _ r) => r
  | _ => .nil
def rest6 : ISs := match rest5 with
  | .cons _ (.cons _ (.cons _ (.cons _ (.cons _ (.cons _ (.cons _ (.cons _ r))))))) => r
  | _ => .nil
theorem sm_lst {n : Nat} {xs : List D} (h : xs.length ≤ 1000) (k : ∀ x ∈ xs, smOk n x = true) : smOk (n + 1) (.lst xs) = true := by
  unfold smOk
  rw [decide_eq_true h, Bool.true_and]
  induction xs with
  | nil => rfl
  | cons x r ih =>
    show (smOk n x && smOks n r) = true
    rw [k x (List.mem_cons_self ..), ih (by rw [List.length_cons] at h; omega) fun y m => k y (List.mem_cons_of_mem _ m)]
    rfl
def tail5 : ISs := match ir_law with
  | .cons _ (.cons _ r) => r
  | _ => .nil
abbrev M0 : Mem := fun _ => none
def Fin (s : D) (a : Addr) (C : SC) : Prop := ∀ o x2 x3 x4 x5 x6 x7 x8 x9 x10 x11 x12 x13 x14 x15 x16 x17 x18 x19, Sta o → C.nx [some s, some (.ref a), x2, x3, x4, x5, x6, x7, x8, x9, x10, x11, x12, x13, x14, x15, x16, x17, x18, x19] (put M0 a o)
theorem rest_more {C : SC} {E : Exn → Mem → Prop} {s : D} {a : Addr} (hC : Fin s a C) {o : MO} (hS : Sta o) (x2 x4 x5 x6 x7 x8 x9 x10 x11 x12 x13 x14 x15 x16 x17 x18 x19 : Option D) (xs : List Int)
    (hx1 : xs.length ≤ 8) (hx2 : ∀ x ∈ xs, Bit 20 x) :
    seqX ΓL [] rest6 C E [some s, some (.ref a), x2, some (tp xs), x4, x5, x6, x7, x8, x9, x10, x11, x12, x13, x14, x15, x16, x17, x18, x19] (put M0 a o) := by
  unfold rest6 rest5 body5 ir_law
  try simp only [↓x_var, ↓x_cst, ↓x_glob, ↓x_tup, ↓x_lst, ↓x_bin, ↓x_neg, ↓x_not, ↓x_and, ↓x_or, ↓x_cmp, ↓x_isN, ↓x_ite, ↓x_ix, ↓x_sl, ↓x_call, ↓x_call0, ↓x_blt, ↓x_isi, ↓x_lc, ↓x_nil, ↓x_cons, ↓x_and1, ↓x_and2, ↓x_or1, ↓x_or2, ↓x_ioN, ↓x_ioS, ↓x_seq, ↓x_rng1, ↓x_rng2, ↓x_pop, ↓x_disp, ↓x_rev, revX_tup, x_end, ↓x_snil, ↓x_scons, ↓x_set, ↓x_par, ↓x_par3, ↓x_unp, ↓x_six, ↓x_exp, ↓x_app, ↓x_ret, ↓x_retN, ↓x_pass, ↓x_brk, ↓x_cont, ↓x_never, ↓x_if, ↓x_for, ↓x_while, refX_ref, v_get, v_getO, v_getI, v_lst, v_ift, v_iff, v_ifn, v_ifd, v_ife, v_if0, v_ifb, v_newF, v_newT, v_tup, v_add, v_sub, v_mul, v_fdiv, v_mod, v_pow, v_addT, v_addL, v_mulL, v_lt, v_le, v_gt, v_ge, v_eqI, v_neI, v_eqB, v_neB, v_ixT, v_ixL, v_slT, v_slL, v_slS, v_lenT, v_lenL, v_int, v_abs, v_max2, v_min2, v_gcd, v_tupT, v_tupL, v_lstT, v_lstL, v_tg1, v_tg2, v_tg3, t_bl, t_int, t_non, s_tup, s_lst, s_scr, isNon, CV.d, isTys, isTy, List.getElem?_cons_zero, List.getElem?_cons_succ, List.set_cons_zero, List.set_cons_succ, put_same, put_put, wipeE, tgSlots, pureSC, List.length_map, List.length_cons, List.length_nil, Bool.or_false, Bool.or_true, Bool.not_true, Bool.not_false, p_ix, p_six, p_len, p_tup, Ext_r, reduceCtorEq, decide_true, decide_false, decide_eq_true_eq, or_true, true_or, or_false, false_or, and_self, true_and, and_true, false_and, and_false, Bool.false_eq_true, Bool.true_eq_false, false_implies, true_implies, implies_true, not_true_eq_false, not_false_eq_true, startE, List.map_cons, List.map_nil, Nat.reduceAdd, Nat.reduceSub, Nat.reduceMul, List.replicate_succ, List.replicate_zero, List.cons_append, List.nil_append, decide_eq_false_iff_not, List.getElem?_map, Option.map_some, p_isL, p_appX, Bool.false_bne, Bool.true_bne, beq_self_eq_true]
  refine ⟨by decide, ?_⟩
  refine for_list (fun k : Nat => .int k) (List.range 3) (fun done ρ M' => ∃ o' y14 y15 y16 y17, Sta o' ∧ M' = put M0 a o' ∧ ρ = [some s, some (.ref a), x2, some (tp xs), x4, x5, x6, x7, x8, x9, x10, x11, x12, x13, y14, y15, y16, y17, x18, x19]) rfl ⟨o, x14, x15, x16, x17, hS, rfl, rfl⟩ ?_ ?_
  · rintro done k rest ρ M' he ⟨o1, y14, y15, y16, y17, hS1, rfl, rfl⟩
    try simp only [↓x_var, ↓x_cst, ↓x_glob, ↓x_tup, ↓x_lst, ↓x_bin, ↓x_neg, ↓x_not, ↓x_and, ↓x_or, ↓x_cmp, ↓x_isN, ↓x_ite, ↓x_ix, ↓x_sl, ↓x_call, ↓x_call0, ↓x_blt, ↓x_isi, ↓x_lc, ↓x_nil, ↓x_cons, ↓x_and1, ↓x_and2, ↓x_or1, ↓x_or2, ↓x_ioN, ↓x_ioS, ↓x_seq, ↓x_rng1, ↓x_rng2, ↓x_pop, ↓x_disp, ↓x_rev, revX_tup, x_end, ↓x_snil, ↓x_scons, ↓x_set, ↓x_par, ↓x_par3, ↓x_unp, ↓x_six, ↓x_exp, ↓x_app, ↓x_ret, ↓x_retN, ↓x_pass, ↓x_brk, ↓x_cont, ↓x_never, ↓x_if, ↓x_for, ↓x_while, refX_ref, v_get, v_getO, v_getI, v_lst, v_ift, v_iff, v_ifn, v_ifd, v_ife, v_if0, v_ifb, v_newF, v_newT, v_tup, v_add, v_sub, v_mul, v_fdiv, v_mod, v_pow, v_addT, v_addL, v_mulL, v_lt, v_le, v_gt, v_ge, v_eqI, v_neI, v_eqB, v_neB, v_ixT, v_ixL, v_slT, v_slL, v_slS, v_lenT, v_lenL, v_int, v_abs, v_max2, v_min2, v_gcd, v_tupT, v_tupL, v_lstT, v_lstL, v_tg1, v_tg2, v_tg3, t_bl, t_int, t_non, s_tup, s_lst, s_scr, isNon, CV.d, isTys, isTy, List.getElem?_cons_zero, List.getElem?_cons_succ, List.set_cons_zero, List.set_cons_succ, put_same, put_put, wipeE, tgSlots, pureSC, List.length_map, List.length_cons, List.length_nil, Bool.or_false, Bool.or_true, Bool.not_true, Bool.not_false, p_ix, p_six, p_len, p_tup, Ext_r, reduceCtorEq, decide_true, decide_false, decide_eq_true_eq, or_true, true_or, or_false, false_or, and_self, true_and, and_true, false_and, and_false, Bool.false_eq_true, Bool.true_eq_false, false_implies, true_implies, implies_true, not_true_eq_false, not_false_eq_true, startE, List.map_cons, List.map_nil, Nat.reduceAdd, Nat.reduceSub, Nat.reduceMul, List.replicate_succ, List.replicate_zero, List.cons_append, List.nil_append, decide_eq_false_iff_not, List.getElem?_map, Option.map_some, p_isL, p_appX, Bool.false_bne, Bool.true_bne, beq_self_eq_true]
    refine call_next hS1 (by decide) fun u o2 hS2 u1 u2 => ?_
    try simp only [↓x_var, ↓x_cst, ↓x_glob, ↓x_tup, ↓x_lst, ↓x_bin, ↓x_neg, ↓x_not, ↓x_and, ↓x_or, ↓x_cmp, ↓x_isN, ↓x_ite, ↓x_ix, ↓x_sl, ↓x_call, ↓x_call0, ↓x_blt, ↓x_isi, ↓x_lc, ↓x_nil, ↓x_cons, ↓x_and1, ↓x_and2, ↓x_or1, ↓x_or2, ↓x_ioN, ↓x_ioS, ↓x_seq, ↓x_rng1, ↓x_rng2, ↓x_pop, ↓x_disp, ↓x_rev, revX_tup, x_end, ↓x_snil, ↓x_scons, ↓x_set, ↓x_par, ↓x_par3, ↓x_unp, ↓x_six, ↓x_exp, ↓x_app, ↓x_ret, ↓x_retN, ↓x_pass, ↓x_brk, ↓x_cont, ↓x_never, ↓x_if, ↓x_for, ↓x_while, refX_ref, v_get, v_getO, v_getI, v_lst, v_ift, v_iff, v_ifn, v_ifd, v_ife, v_if0, v_ifb, v_newF, v_newT, v_tup, v_add, v_sub, v_mul, v_fdiv, v_mod, v_pow, v_addT, v_addL, v_mulL, v_lt, v_le, v_gt, v_ge, v_eqI, v_neI, v_eqB, v_neB, v_ixT, v_ixL, v_slT, v_slL, v_slS, v_lenT, v_lenL, v_int, v_abs, v_max2, v_min2, v_gcd, v_tupT, v_tupL, v_lstT, v_lstL, v_tg1, v_tg2, v_tg3, t_bl, t_int, t_non, s_tup, s_lst, s_scr, isNon, CV.d, isTys, isTy, List.getElem?_cons_zero, List.getElem?_cons_succ, List.set_cons_zero, List.set_cons_succ, put_same, put_put, wipeE, tgSlots, pureSC, List.length_map, List.length_cons, List.length_nil, Bool.or_false, Bool.or_true, Bool.not_true, Bool.not_false, p_ix, p_six, p_len, p_tup, Ext_r, reduceCtorEq, decide_true, decide_false, decide_eq_true_eq, or_true, true_or, or_false, false_or, and_self, true_and, and_true, false_and, and_false, Bool.false_eq_true, Bool.true_eq_false, false_implies, true_implies, implies_true, not_true_eq_false, not_false_eq_true, startE, List.map_cons, List.map_nil, Nat.reduceAdd, Nat.reduceSub, Nat.reduceMul, List.replicate_succ, List.replicate_zero, List.cons_append, List.nil_append, decide_eq_false_iff_not, List.getElem?_map, Option.map_some, p_isL, p_appX, Bool.false_bne, Bool.true_bne, beq_self_eq_true]
    refine call_next hS2 (by decide) fun v o3 hS3 v1 v2 => ?_
    try simp only [↓x_var, ↓x_cst, ↓x_glob, ↓x_tup, ↓x_lst, ↓x_bin, ↓x_neg, ↓x_not, ↓x_and, ↓x_or, ↓x_cmp, ↓x_isN, ↓x_ite, ↓x_ix, ↓x_sl, ↓x_call, ↓x_call0, ↓x_blt, ↓x_isi, ↓x_lc, ↓x_nil, ↓x_cons, ↓x_and1, ↓x_and2, ↓x_or1, ↓x_or2, ↓x_ioN, ↓x_ioS, ↓x_seq, ↓x_rng1, ↓x_rng2, ↓x_pop, ↓x_disp, ↓x_rev, revX_tup, x_end, ↓x_snil, ↓x_scons, ↓x_set, ↓x_par, ↓x_par3, ↓x_unp, ↓x_six, ↓x_exp, ↓x_app, ↓x_ret, ↓x_retN, ↓x_pass, ↓x_brk, ↓x_cont, ↓x_never, ↓x_if, ↓x_for, ↓x_while, refX_ref, v_get, v_getO, v_getI, v_lst, v_ift, v_iff, v_ifn, v_ifd, v_ife, v_if0, v_ifb, v_newF, v_newT, v_tup, v_add, v_sub, v_mul, v_fdiv, v_mod, v_pow, v_addT, v_addL, v_mulL, v_lt, v_le, v_gt, v_ge, v_eqI, v_neI, v_eqB, v_neB, v_ixT, v_ixL, v_slT, v_slL, v_slS, v_lenT, v_lenL, v_int, v_abs, v_max2, v_min2, v_gcd, v_tupT, v_tupL, v_lstT, v_lstL, v_tg1, v_tg2, v_tg3, t_bl, t_int, t_non, s_tup, s_lst, s_scr, isNon, CV.d, isTys, isTy, List.getElem?_cons_zero, List.getElem?_cons_succ, List.set_cons_zero, List.set_cons_succ, put_same, put_put, wipeE, tgSlots, pureSC, List.length_map, List.length_cons, List.length_nil, Bool.or_false, Bool.or_true, Bool.not_true, Bool.not_false, p_ix, p_six, p_len, p_tup, Ext_r, reduceCtorEq, decide_true, decide_false, decide_eq_true_eq, or_true, true_or, or_false, false_or, and_self, true_and, and_true, false_and, and_false, Bool.false_eq_true, Bool.true_eq_false, false_implies, true_implies, implies_true, not_true_eq_false, not_false_eq_true, startE, List.map_cons, List.map_nil, Nat.reduceAdd, Nat.reduceSub, Nat.reduceMul, List.replicate_succ, List.replicate_zero, List.cons_append, List.nil_append, decide_eq_false_iff_not, List.getElem?_map, Option.map_some, p_isL, p_appX, Bool.false_bne, Bool.true_bne, beq_self_eq_true]
    have bv : Bit 8000 (1 + v) := Bit.up (k := 20) (show (1 + v).natAbs < 2 ^ 20 by omega) (by decide)
    refine call_pf (u - 12, 1 + v) rfl ⟨show 1 + v ≠ 0 by omega, bv⟩ ?_
    obtain ⟨p, q, e, hp, hq, q0⟩ := low_ok (n := u - 12) (d := 1 + v) (by omega) (by omega) (by omega)
    dsimp only
    rw [e]
    try simp only [↓x_var, ↓x_cst, ↓x_glob, ↓x_tup, ↓x_lst, ↓x_bin, ↓x_neg, ↓x_not, ↓x_and, ↓x_or, ↓x_cmp, ↓x_isN, ↓x_ite, ↓x_ix, ↓x_sl, ↓x_call, ↓x_call0, ↓x_blt, ↓x_isi, ↓x_lc, ↓x_nil, ↓x_cons, ↓x_and1, ↓x_and2, ↓x_or1, ↓x_or2, ↓x_ioN, ↓x_ioS, ↓x_seq, ↓x_rng1, ↓x_rng2, ↓x_pop, ↓x_disp, ↓x_rev, revX_tup, x_end, ↓x_snil, ↓x_scons, ↓x_set, ↓x_par, ↓x_par3, ↓x_unp, ↓x_six, ↓x_exp, ↓x_app, ↓x_ret, ↓x_retN, ↓x_pass, ↓x_brk, ↓x_cont, ↓x_never, ↓x_if, ↓x_for, ↓x_while, refX_ref, v_get, v_getO, v_getI, v_lst, v_ift, v_iff, v_ifn, v_ifd, v_ife, v_if0, v_ifb, v_newF, v_newT, v_tup, v_add, v_sub, v_mul, v_fdiv, v_mod, v_pow, v_addT, v_addL, v_mulL, v_lt, v_le, v_gt, v_ge, v_eqI, v_neI, v_eqB, v_neB, v_ixT, v_ixL, v_slT, v_slL, v_slS, v_lenT, v_lenL, v_int, v_abs, v_max2, v_min2, v_gcd, v_tupT, v_tupL, v_lstT, v_lstL, v_tg1, v_tg2, v_tg3, t_bl, t_int, t_non, s_tup, s_lst, s_scr, isNon, CV.d, isTys, isTy, List.getElem?_cons_zero, List.getElem?_cons_succ, List.set_cons_zero, List.set_cons_succ, put_same, put_put, wipeE, tgSlots, pureSC, List.length_map, List.length_cons, List.length_nil, Bool.or_false, Bool.or_true, Bool.not_true, Bool.not_false, p_ix, p_six, p_len, p_tup, Ext_r, reduceCtorEq, decide_true, decide_false, decide_eq_true_eq, or_true, true_or, or_false, false_or, and_self, true_and, and_true, false_and, and_false, Bool.false_eq_true, Bool.true_eq_false, false_implies, true_implies, implies_true, not_true_eq_false, not_false_eq_true, startE, List.map_cons, List.map_nil, Nat.reduceAdd, Nat.reduceSub, Nat.reduceMul, List.replicate_succ, List.replicate_zero, List.cons_append, List.nil_append, decide_eq_false_iff_not, List.getElem?_map, Option.map_some, p_isL, p_appX, Bool.false_bne, Bool.true_bne, beq_self_eq_true,  show atI [D.int p, D.int q] 0 = some (.int p) from rfl, show atI [D.int p, D.int q] 1 = some (.int q) from rfl]
    refine call_pf (xs, p, q) rfl ⟨show xs.length ≤ 60 from by omega, fun z hz => (hx2 z hz).up (by decide), hp, hq⟩ ?_
    try simp only [↓x_var, ↓x_cst, ↓x_glob, ↓x_tup, ↓x_lst, ↓x_bin, ↓x_neg, ↓x_not, ↓x_and, ↓x_or, ↓x_cmp, ↓x_isN, ↓x_ite, ↓x_ix, ↓x_sl, ↓x_call, ↓x_call0, ↓x_blt, ↓x_isi, ↓x_lc, ↓x_nil, ↓x_cons, ↓x_and1, ↓x_and2, ↓x_or1, ↓x_or2, ↓x_ioN, ↓x_ioS, ↓x_seq, ↓x_rng1, ↓x_rng2, ↓x_pop, ↓x_disp, ↓x_rev, revX_tup, x_end, ↓x_snil, ↓x_scons, ↓x_set, ↓x_par, ↓x_par3, ↓x_unp, ↓x_six, ↓x_exp, ↓x_app, ↓x_ret, ↓x_retN, ↓x_pass, ↓x_brk, ↓x_cont, ↓x_never, ↓x_if, ↓x_for, ↓x_while, refX_ref, v_get, v_getO, v_getI, v_lst, v_ift, v_iff, v_ifn, v_ifd, v_ife, v_if0, v_ifb, v_newF, v_newT, v_tup, v_add, v_sub, v_mul, v_fdiv, v_mod, v_pow, v_addT, v_addL, v_mulL, v_lt, v_le, v_gt, v_ge, v_eqI, v_neI, v_eqB, v_neB, v_ixT, v_ixL, v_slT, v_slL, v_slS, v_lenT, v_lenL, v_int, v_abs, v_max2, v_min2, v_gcd, v_tupT, v_tupL, v_lstT, v_lstL, v_tg1, v_tg2, v_tg3, t_bl, t_int, t_non, s_tup, s_lst, s_scr, isNon, CV.d, isTys, isTy, List.getElem?_cons_zero, List.getElem?_cons_succ, List.set_cons_zero, List.set_cons_succ, put_same, put_put, wipeE, tgSlots, pureSC, List.length_map, List.length_cons, List.length_nil, Bool.or_false, Bool.or_true, Bool.not_true, Bool.not_false, p_ix, p_six, p_len, p_tup, Ext_r, reduceCtorEq, decide_true, decide_false, decide_eq_true_eq, or_true, true_or, or_false, false_or, and_self, true_and, and_true, false_and, and_false, Bool.false_eq_true, Bool.true_eq_false, false_implies, true_implies, implies_true, not_true_eq_false, not_false_eq_true, startE, List.map_cons, List.map_nil, Nat.reduceAdd, Nat.reduceSub, Nat.reduceMul, List.replicate_succ, List.replicate_zero, List.cons_append, List.nil_append, decide_eq_false_iff_not, List.getElem?_map, Option.map_some, p_isL, p_appX, Bool.false_bne, Bool.true_bne, beq_self_eq_true]
    refine call_pf (xs, p, q) rfl ⟨show xs.length ≤ 60 from by omega, fun z hz => (hx2 z hz).up (by decide), hp, hq, show q ≠ 0 by omega⟩ ?_
    try simp only [↓x_var, ↓x_cst, ↓x_glob, ↓x_tup, ↓x_lst, ↓x_bin, ↓x_neg, ↓x_not, ↓x_and, ↓x_or, ↓x_cmp, ↓x_isN, ↓x_ite, ↓x_ix, ↓x_sl, ↓x_call, ↓x_call0, ↓x_blt, ↓x_isi, ↓x_lc, ↓x_nil, ↓x_cons, ↓x_and1, ↓x_and2, ↓x_or1, ↓x_or2, ↓x_ioN, ↓x_ioS, ↓x_seq, ↓x_rng1, ↓x_rng2, ↓x_pop, ↓x_disp, ↓x_rev, revX_tup, x_end, ↓x_snil, ↓x_scons, ↓x_set, ↓x_par, ↓x_par3, ↓x_unp, ↓x_six, ↓x_exp, ↓x_app, ↓x_ret, ↓x_retN, ↓x_pass, ↓x_brk, ↓x_cont, ↓x_never, ↓x_if, ↓x_for, ↓x_while, refX_ref, v_get, v_getO, v_getI, v_lst, v_ift, v_iff, v_ifn, v_ifd, v_ife, v_if0, v_ifb, v_newF, v_newT, v_tup, v_add, v_sub, v_mul, v_fdiv, v_mod, v_pow, v_addT, v_addL, v_mulL, v_lt, v_le, v_gt, v_ge, v_eqI, v_neI, v_eqB, v_neB, v_ixT, v_ixL, v_slT, v_slL, v_slS, v_lenT, v_lenL, v_int, v_abs, v_max2, v_min2, v_gcd, v_tupT, v_tupL, v_lstT, v_lstL, v_tg1, v_tg2, v_tg3, t_bl, t_int, t_non, s_tup, s_lst, s_scr, isNon, CV.d, isTys, isTy, List.getElem?_cons_zero, List.getElem?_cons_succ, List.set_cons_zero, List.set_cons_succ, put_same, put_put, wipeE, tgSlots, pureSC, List.length_map, List.length_cons, List.length_nil, Bool.or_false, Bool.or_true, Bool.not_true, Bool.not_false, p_ix, p_six, p_len, p_tup, Ext_r, reduceCtorEq, decide_true, decide_false, decide_eq_true_eq, or_true, true_or, or_false, false_or, and_self, true_and, and_true, false_and, and_false, Bool.false_eq_true, Bool.true_eq_false, false_implies, true_implies, implies_true, not_true_eq_false, not_false_eq_true, startE, List.map_cons, List.map_nil, Nat.reduceAdd, Nat.reduceSub, Nat.reduceMul, List.replicate_succ, List.replicate_zero, List.cons_append, List.nil_append, decide_eq_false_iff_not, List.getElem?_map, Option.map_some, p_isL, p_appX, Bool.false_bne, Bool.true_bne, beq_self_eq_true]
    refine call_pf (q * topR p q xs, q ^ xs.length) rfl ⟨Int.pow_ne_zero (show q ≠ 0 by omega), (hq.pow xs.length).up (by omega)⟩ ?_
    try simp only [↓x_var, ↓x_cst, ↓x_glob, ↓x_tup, ↓x_lst, ↓x_bin, ↓x_neg, ↓x_not, ↓x_and, ↓x_or, ↓x_cmp, ↓x_isN, ↓x_ite, ↓x_ix, ↓x_sl, ↓x_call, ↓x_call0, ↓x_blt, ↓x_isi, ↓x_lc, ↓x_nil, ↓x_cons, ↓x_and1, ↓x_and2, ↓x_or1, ↓x_or2, ↓x_ioN, ↓x_ioS, ↓x_seq, ↓x_rng1, ↓x_rng2, ↓x_pop, ↓x_disp, ↓x_rev, revX_tup, x_end, ↓x_snil, ↓x_scons, ↓x_set, ↓x_par, ↓x_par3, ↓x_unp, ↓x_six, ↓x_exp, ↓x_app, ↓x_ret, ↓x_retN, ↓x_pass, ↓x_brk, ↓x_cont, ↓x_never, ↓x_if, ↓x_for, ↓x_while, refX_ref, v_get, v_getO, v_getI, v_lst, v_ift, v_iff, v_ifn, v_ifd, v_ife, v_if0, v_ifb, v_newF, v_newT, v_tup, v_add, v_sub, v_mul, v_fdiv, v_mod, v_pow, v_addT, v_addL, v_mulL, v_lt, v_le, v_gt, v_ge, v_eqI, v_neI, v_eqB, v_neB, v_ixT, v_ixL, v_slT, v_slL, v_slS, v_lenT, v_lenL, v_int, v_abs, v_max2, v_min2, v_gcd, v_tupT, v_tupL, v_lstT, v_lstL, v_tg1, v_tg2, v_tg3, t_bl, t_int, t_non, s_tup, s_lst, s_scr, isNon, CV.d, isTys, isTy, List.getElem?_cons_zero, List.getElem?_cons_succ, List.set_cons_zero, List.set_cons_succ, put_same, put_put, wipeE, tgSlots, pureSC, List.length_map, List.length_cons, List.length_nil, Bool.or_false, Bool.or_true, Bool.not_true, Bool.not_false, p_ix, p_six, p_len, p_tup, Ext_r, reduceCtorEq, decide_true, decide_false, decide_eq_true_eq, or_true, true_or, or_false, false_or, and_self, true_and, and_true, false_and, and_false, Bool.false_eq_true, Bool.true_eq_false, false_implies, true_implies, implies_true, not_true_eq_false, not_false_eq_true, startE, List.map_cons, List.map_nil, Nat.reduceAdd, Nat.reduceSub, Nat.reduceMul, List.replicate_succ, List.replicate_zero, List.cons_append, List.nil_append, decide_eq_false_iff_not, List.getElem?_map, Option.map_some, p_isL, p_appX, Bool.false_bne, Bool.true_bne, beq_self_eq_true]
    refine call_pf (lowF (q * topR p q xs) (q ^ xs.length)) rfl rfl ?_ (by rw [at_val q0])
    try simp only [↓x_var, ↓x_cst, ↓x_glob, ↓x_tup, ↓x_lst, ↓x_bin, ↓x_neg, ↓x_not, ↓x_and, ↓x_or, ↓x_cmp, ↓x_isN, ↓x_ite, ↓x_ix, ↓x_sl, ↓x_call, ↓x_call0, ↓x_blt, ↓x_isi, ↓x_lc, ↓x_nil, ↓x_cons, ↓x_and1, ↓x_and2, ↓x_or1, ↓x_or2, ↓x_ioN, ↓x_ioS, ↓x_seq, ↓x_rng1, ↓x_rng2, ↓x_pop, ↓x_disp, ↓x_rev, revX_tup, x_end, ↓x_snil, ↓x_scons, ↓x_set, ↓x_par, ↓x_par3, ↓x_unp, ↓x_six, ↓x_exp, ↓x_app, ↓x_ret, ↓x_retN, ↓x_pass, ↓x_brk, ↓x_cont, ↓x_never, ↓x_if, ↓x_for, ↓x_while, refX_ref, v_get, v_getO, v_getI, v_lst, v_ift, v_iff, v_ifn, v_ifd, v_ife, v_if0, v_ifb, v_newF, v_newT, v_tup, v_add, v_sub, v_mul, v_fdiv, v_mod, v_pow, v_addT, v_addL, v_mulL, v_lt, v_le, v_gt, v_ge, v_eqI, v_neI, v_eqB, v_neB, v_ixT, v_ixL, v_slT, v_slL, v_slS, v_lenT, v_lenL, v_int, v_abs, v_max2, v_min2, v_gcd, v_tupT, v_tupL, v_lstT, v_lstL, v_tg1, v_tg2, v_tg3, t_bl, t_int, t_non, s_tup, s_lst, s_scr, isNon, CV.d, isTys, isTy, List.getElem?_cons_zero, List.getElem?_cons_succ, List.set_cons_zero, List.set_cons_succ, put_same, put_put, wipeE, tgSlots, pureSC, List.length_map, List.length_cons, List.length_nil, Bool.or_false, Bool.or_true, Bool.not_true, Bool.not_false, p_ix, p_six, p_len, p_tup, Ext_r, reduceCtorEq, decide_true, decide_false, decide_eq_true_eq, or_true, true_or, or_false, false_or, and_self, true_and, and_true, false_and, and_false, Bool.false_eq_true, Bool.true_eq_false, false_implies, true_implies, implies_true, not_true_eq_false, not_false_eq_true, startE, List.map_cons, List.map_nil, Nat.reduceAdd, Nat.reduceSub, Nat.reduceMul, List.replicate_succ, List.replicate_zero, List.cons_append, List.nil_append, decide_eq_false_iff_not, List.getElem?_map, Option.map_some, p_isL, p_appX, Bool.false_bne, Bool.true_bne, beq_self_eq_true]
    exact ⟨o3, _, _, _, _, hS3, rfl, rfl⟩
  · rintro ρ M' ⟨o1, y14, y15, y16, y17, hS1, rfl, rfl⟩
    try simp only [↓x_var, ↓x_cst, ↓x_glob, ↓x_tup, ↓x_lst, ↓x_bin, ↓x_neg, ↓x_not, ↓x_and, ↓x_or, ↓x_cmp, ↓x_isN, ↓x_ite, ↓x_ix, ↓x_sl, ↓x_call, ↓x_call0, ↓x_blt, ↓x_isi, ↓x_lc, ↓x_nil, ↓x_cons, ↓x_and1, ↓x_and2, ↓x_or1, ↓x_or2, ↓x_ioN, ↓x_ioS, ↓x_seq, ↓x_rng1, ↓x_rng2, ↓x_pop, ↓x_disp, ↓x_rev, revX_tup, x_end, ↓x_snil, ↓x_scons, ↓x_set, ↓x_par, ↓x_par3, ↓x_unp, ↓x_six, ↓x_exp, ↓x_app, ↓x_ret, ↓x_retN, ↓x_pass, ↓x_brk, ↓x_cont, ↓x_never, ↓x_if, ↓x_for, ↓x_while, refX_ref, v_get, v_getO, v_getI, v_lst, v_ift, v_iff, v_ifn, v_ifd, v_ife, v_if0, v_ifb, v_newF, v_newT, v_tup, v_add, v_sub, v_mul, v_fdiv, v_mod, v_pow, v_addT, v_addL, v_mulL, v_lt, v_le, v_gt, v_ge, v_eqI, v_neI, v_eqB, v_neB, v_ixT, v_ixL, v_slT, v_slL, v_slS, v_lenT, v_lenL, v_int, v_abs, v_max2, v_min2, v_gcd, v_tupT, v_tupL, v_lstT, v_lstL, v_tg1, v_tg2, v_tg3, t_bl, t_int, t_non, s_tup, s_lst, s_scr, isNon, CV.d, isTys, isTy, List.getElem?_cons_zero, List.getElem?_cons_succ, List.set_cons_zero, List.set_cons_succ, put_same, put_put, wipeE, tgSlots, pureSC, List.length_map, List.length_cons, List.length_nil, Bool.or_false, Bool.or_true, Bool.not_true, Bool.not_false, p_ix, p_six, p_len, p_tup, Ext_r, reduceCtorEq, decide_true, decide_false, decide_eq_true_eq, or_true, true_or, or_false, false_or, and_self, true_and, and_true, false_and, and_false, Bool.false_eq_true, Bool.true_eq_false, false_implies, true_implies, implies_true, not_true_eq_false, not_false_eq_true, startE, List.map_cons, List.map_nil, Nat.reduceAdd, Nat.reduceSub, Nat.reduceMul, List.replicate_succ, List.replicate_zero, List.cons_append, List.nil_append, decide_eq_false_iff_not, List.getElem?_map, Option.map_some, p_isL, p_appX, Bool.false_bne, Bool.true_bne, beq_self_eq_true]
    refine call_next hS1 (by omega) fun w o2 hS2 w1 w2 => ?_
    try simp only [↓x_var, ↓x_cst, ↓x_glob, ↓x_tup, ↓x_lst, ↓x_bin, ↓x_neg, ↓x_not, ↓x_and, ↓x_or, ↓x_cmp, ↓x_isN, ↓x_ite, ↓x_ix, ↓x_sl, ↓x_call, ↓x_call0, ↓x_blt, ↓x_isi, ↓x_lc, ↓x_nil, ↓x_cons, ↓x_and1, ↓x_and2, ↓x_or1, ↓x_or2, ↓x_ioN, ↓x_ioS, ↓x_seq, ↓x_rng1, ↓x_rng2, ↓x_pop, ↓x_disp, ↓x_rev, revX_tup, x_end, ↓x_snil, ↓x_scons, ↓x_set, ↓x_par, ↓x_par3, ↓x_unp, ↓x_six, ↓x_exp, ↓x_app, ↓x_ret, ↓x_retN, ↓x_pass, ↓x_brk, ↓x_cont, ↓x_never, ↓x_if, ↓x_for, ↓x_while, refX_ref, v_get, v_getO, v_getI, v_lst, v_ift, v_iff, v_ifn, v_ifd, v_ife, v_if0, v_ifb, v_newF, v_newT, v_tup, v_add, v_sub, v_mul, v_fdiv, v_mod, v_pow, v_addT, v_addL, v_mulL, v_lt, v_le, v_gt, v_ge, v_eqI, v_neI, v_eqB, v_neB, v_ixT, v_ixL, v_slT, v_slL, v_slS, v_lenT, v_lenL, v_int, v_abs, v_max2, v_min2, v_gcd, v_tupT, v_tupL, v_lstT, v_lstL, v_tg1, v_tg2, v_tg3, t_bl, t_int, t_non, s_tup, s_lst, s_scr, isNon, CV.d, isTys, isTy, List.getElem?_cons_zero, List.getElem?_cons_succ, List.set_cons_zero, List.set_cons_succ, put_same, put_put, wipeE, tgSlots, pureSC, List.length_map, List.length_cons, List.length_nil, Bool.or_false, Bool.or_true, Bool.not_true, Bool.not_false, p_ix, p_six, p_len, p_tup, Ext_r, reduceCtorEq, decide_true, decide_false, decide_eq_true_eq, or_true, true_or, or_false, false_or, and_self, true_and, and_true, false_and, and_false, Bool.false_eq_true, Bool.true_eq_false, false_implies, true_implies, implies_true, not_true_eq_false, not_false_eq_true, startE, List.map_cons, List.map_nil, Nat.reduceAdd, Nat.reduceSub, Nat.reduceMul, List.replicate_succ, List.replicate_zero, List.cons_append, List.nil_append, decide_eq_false_iff_not, List.getElem?_map, Option.map_some, p_isL, p_appX, Bool.false_bne, Bool.true_bne, beq_self_eq_true,  cut_take w1, cut_drop (show 0 ≤ w + 1 by omega)]
    repeat (first | refine And.intro (by decide) ?_ | refine And.intro ?_ (by decide))
    refine call_pick hS2 (by decide) fun x o3 hx hS3 => ?_
    have px : plainD x = true := by
      simp only [List.mem_cons, List.not_mem_nil, or_false] at hx
      rcases hx with rfl | rfl | rfl | rfl | rfl <;> rfl
    have k1 : (List.take w.toNat (xs.map D.int)).length ≤ 8 := by rw [List.length_take, List.length_map]; omega
    have k2 : (List.drop (w + 1).toNat (xs.map D.int)).length ≤ 8 := by rw [List.length_drop, List.length_map]; omega
    have k3 : (List.take w.toNat (xs.map D.int) ++ [x]).length ≤ 9 := by rw [List.length_append]; show _ + 1 ≤ 9; omega
    try simp only [↓x_var, ↓x_cst, ↓x_glob, ↓x_tup, ↓x_lst, ↓x_bin, ↓x_neg, ↓x_not, ↓x_and, ↓x_or, ↓x_cmp, ↓x_isN, ↓x_ite, ↓x_ix, ↓x_sl, ↓x_call, ↓x_call0, ↓x_blt, ↓x_isi, ↓x_lc, ↓x_nil, ↓x_cons, ↓x_and1, ↓x_and2, ↓x_or1, ↓x_or2, ↓x_ioN, ↓x_ioS, ↓x_seq, ↓x_rng1, ↓x_rng2, ↓x_pop, ↓x_disp, ↓x_rev, revX_tup, x_end, ↓x_snil, ↓x_scons, ↓x_set, ↓x_par, ↓x_par3, ↓x_unp, ↓x_six, ↓x_exp, ↓x_app, ↓x_ret, ↓x_retN, ↓x_pass, ↓x_brk, ↓x_cont, ↓x_never, ↓x_if, ↓x_for, ↓x_while, refX_ref, v_get, v_getO, v_getI, v_lst, v_ift, v_iff, v_ifn, v_ifd, v_ife, v_if0, v_ifb, v_newF, v_newT, v_tup, v_add, v_sub, v_mul, v_fdiv, v_mod, v_pow, v_addT, v_addL, v_mulL, v_lt, v_le, v_gt, v_ge, v_eqI, v_neI, v_eqB, v_neB, v_ixT, v_ixL, v_slT, v_slL, v_slS, v_lenT, v_lenL, v_int, v_abs, v_max2, v_min2, v_gcd, v_tupT, v_tupL, v_lstT, v_lstL, v_tg1, v_tg2, v_tg3, t_bl, t_int, t_non, s_tup, s_lst, s_scr, isNon, CV.d, isTys, isTy, List.getElem?_cons_zero, List.getElem?_cons_succ, List.set_cons_zero, List.set_cons_succ, put_same, put_put, wipeE, tgSlots, pureSC, List.length_map, List.length_cons, List.length_nil, Bool.or_false, Bool.or_true, Bool.not_true, Bool.not_false, p_ix, p_six, p_len, p_tup, Ext_r, reduceCtorEq, decide_true, decide_false, decide_eq_true_eq, or_true, true_or, or_false, false_or, and_self, true_and, and_true, false_and, and_false, Bool.false_eq_true, Bool.true_eq_false, false_implies, true_implies, implies_true, not_true_eq_false, not_false_eq_true, startE, List.map_cons, List.map_nil, Nat.reduceAdd, Nat.reduceSub, Nat.reduceMul, List.replicate_succ, List.replicate_zero, List.cons_append, List.nil_append, decide_eq_false_iff_not, List.getElem?_map, Option.map_some, p_isL, p_appX, Bool.false_bne, Bool.true_bne, beq_self_eq_true]
    refine ⟨by decide, by unfold sizeLine; omega, by unfold sizeLine; omega, by decide, by unfold sizeLine; omega, ?_⟩
    repeat (first | refine And.intro (by decide) ?_ | refine And.intro ?_ (by decide))
    have pi : ∀ ys : List Int, ∀ z ∈ ys.map D.int, plainD z = true := fun ys z hz => by
      obtain ⟨i, _, rfl⟩ := List.mem_map.mp hz
      rfl
    refine for_list id _ (fun done ρ M' => M' = put M0 a o3 ∧ ∃ y19, ρ = [some s, some (.ref a), x2, some (tp xs), x4, x5, x6, x7, x8, x9, x10, x11, x12, x13, y14, y15, y16, y17, some (.int w), y19]) (List.map_id _).symm ⟨rfl, x19, rfl⟩ ?_ ?_
    · rintro done v rest ρ M' he ⟨rfl, y19, rfl⟩
      dsimp only at he
      have hv : plainU v = true ∧ ∀ ys, v = .tup ys → ys.length ≤ 500 := by
        have m : v ∈ done ++ v :: rest := by simp
        rw [← he] at m
        simp only [List.mem_cons, List.not_mem_nil, or_false] at m
        rcases m with rfl | rfl | rfl | rfl | rfl | rfl
        · refine ⟨List.all_eq_true.mpr fun z hz => ?_, fun ys e => ?_⟩
          · rcases List.mem_append.mp hz with hz | hz
            · rcases List.mem_append.mp hz with hz | hz
              · exact pi xs z (List.mem_of_mem_take hz)
              · rw [List.mem_singleton.mp hz]; exact px
            · exact pi xs z (List.mem_of_mem_drop hz)
          · cases e; rw [List.length_append]; omega
        · refine ⟨List.all_eq_true.mpr fun z hz => ?_, fun ys e => ?_⟩
          · rcases List.mem_append.mp hz with hz | hz
            · exact pi xs z hz
            · rw [List.mem_singleton.mp hz]; rfl
          · cases e; rw [List.length_append, List.length_map]; show _ + 1 ≤ 500; omega
        · exact ⟨rfl, fun ys e => by cases e⟩
        · exact ⟨rfl, fun ys e => by cases e⟩
        · exact ⟨rfl, fun ys e => by cases e⟩
        · exact ⟨List.all_eq_true.mpr (pi xs), fun ys e => by cases e; rw [List.length_map]; omega⟩
      try simp only [↓x_var, ↓x_cst, ↓x_glob, ↓x_tup, ↓x_lst, ↓x_bin, ↓x_neg, ↓x_not, ↓x_and, ↓x_or, ↓x_cmp, ↓x_isN, ↓x_ite, ↓x_ix, ↓x_sl, ↓x_call, ↓x_call0, ↓x_blt, ↓x_isi, ↓x_lc, ↓x_nil, ↓x_cons, ↓x_and1, ↓x_and2, ↓x_or1, ↓x_or2, ↓x_ioN, ↓x_ioS, ↓x_seq, ↓x_rng1, ↓x_rng2, ↓x_pop, ↓x_disp, ↓x_rev, revX_tup, x_end, ↓x_snil, ↓x_scons, ↓x_set, ↓x_par, ↓x_par3, ↓x_unp, ↓x_six, ↓x_exp, ↓x_app, ↓x_ret, ↓x_retN, ↓x_pass, ↓x_brk, ↓x_cont, ↓x_never, ↓x_if, ↓x_for, ↓x_while, refX_ref, v_get, v_getO, v_getI, v_lst, v_ift, v_iff, v_ifn, v_ifd, v_ife, v_if0, v_ifb, v_newF, v_newT, v_tup, v_add, v_sub, v_mul, v_fdiv, v_mod, v_pow, v_addT, v_addL, v_mulL, v_lt, v_le, v_gt, v_ge, v_eqI, v_neI, v_eqB, v_neB, v_ixT, v_ixL, v_slT, v_slL, v_slS, v_lenT, v_lenL, v_int, v_abs, v_max2, v_min2, v_gcd, v_tupT, v_tupL, v_lstT, v_lstL, v_tg1, v_tg2, v_tg3, t_bl, t_int, t_non, s_tup, s_lst, s_scr, isNon, CV.d, isTys, isTy, List.getElem?_cons_zero, List.getElem?_cons_succ, List.set_cons_zero, List.set_cons_succ, put_same, put_put, wipeE, tgSlots, pureSC, List.length_map, List.length_cons, List.length_nil, Bool.or_false, Bool.or_true, Bool.not_true, Bool.not_false, p_ix, p_six, p_len, p_tup, Ext_r, reduceCtorEq, decide_true, decide_false, decide_eq_true_eq, or_true, true_or, or_false, false_or, and_self, true_and, and_true, false_and, and_false, Bool.false_eq_true, Bool.true_eq_false, false_implies, true_implies, implies_true, not_true_eq_false, not_false_eq_true, startE, List.map_cons, List.map_nil, Nat.reduceAdd, Nat.reduceSub, Nat.reduceMul, List.replicate_succ, List.replicate_zero, List.cons_append, List.nil_append, decide_eq_false_iff_not, List.getElem?_map, Option.map_some, p_isL, p_appX, Bool.false_bne, Bool.true_bne, beq_self_eq_true,  id]
      refine call_pf v rfl hv ?_
      try simp only [↓x_var, ↓x_cst, ↓x_glob, ↓x_tup, ↓x_lst, ↓x_bin, ↓x_neg, ↓x_not, ↓x_and, ↓x_or, ↓x_cmp, ↓x_isN, ↓x_ite, ↓x_ix, ↓x_sl, ↓x_call, ↓x_call0, ↓x_blt, ↓x_isi, ↓x_lc, ↓x_nil, ↓x_cons, ↓x_and1, ↓x_and2, ↓x_or1, ↓x_or2, ↓x_ioN, ↓x_ioS, ↓x_seq, ↓x_rng1, ↓x_rng2, ↓x_pop, ↓x_disp, ↓x_rev, revX_tup, x_end, ↓x_snil, ↓x_scons, ↓x_set, ↓x_par, ↓x_par3, ↓x_unp, ↓x_six, ↓x_exp, ↓x_app, ↓x_ret, ↓x_retN, ↓x_pass, ↓x_brk, ↓x_cont, ↓x_never, ↓x_if, ↓x_for, ↓x_while, refX_ref, v_get, v_getO, v_getI, v_lst, v_ift, v_iff, v_ifn, v_ifd, v_ife, v_if0, v_ifb, v_newF, v_newT, v_tup, v_add, v_sub, v_mul, v_fdiv, v_mod, v_pow, v_addT, v_addL, v_mulL, v_lt, v_le, v_gt, v_ge, v_eqI, v_neI, v_eqB, v_neB, v_ixT, v_ixL, v_slT, v_slL, v_slS, v_lenT, v_lenL, v_int, v_abs, v_max2, v_min2, v_gcd, v_tupT, v_tupL, v_lstT, v_lstL, v_tg1, v_tg2, v_tg3, t_bl, t_int, t_non, s_tup, s_lst, s_scr, isNon, CV.d, isTys, isTy, List.getElem?_cons_zero, List.getElem?_cons_succ, List.set_cons_zero, List.set_cons_succ, put_same, put_put, wipeE, tgSlots, pureSC, List.length_map, List.length_cons, List.length_nil, Bool.or_false, Bool.or_true, Bool.not_true, Bool.not_false, p_ix, p_six, p_len, p_tup, Ext_r, reduceCtorEq, decide_true, decide_false, decide_eq_true_eq, or_true, true_or, or_false, false_or, and_self, true_and, and_true, false_and, and_false, Bool.false_eq_true, Bool.true_eq_false, false_implies, true_implies, implies_true, not_true_eq_false, not_false_eq_true, startE, List.map_cons, List.map_nil, Nat.reduceAdd, Nat.reduceSub, Nat.reduceMul, List.replicate_succ, List.replicate_zero, List.cons_append, List.nil_append, decide_eq_false_iff_not, List.getElem?_map, Option.map_some, p_isL, p_appX, Bool.false_bne, Bool.true_bne, beq_self_eq_true]
      refine call_pf v rfl hv ?_
      try simp only [↓x_var, ↓x_cst, ↓x_glob, ↓x_tup, ↓x_lst, ↓x_bin, ↓x_neg, ↓x_not, ↓x_and, ↓x_or, ↓x_cmp, ↓x_isN, ↓x_ite, ↓x_ix, ↓x_sl, ↓x_call, ↓x_call0, ↓x_blt, ↓x_isi, ↓x_lc, ↓x_nil, ↓x_cons, ↓x_and1, ↓x_and2, ↓x_or1, ↓x_or2, ↓x_ioN, ↓x_ioS, ↓x_seq, ↓x_rng1, ↓x_rng2, ↓x_pop, ↓x_disp, ↓x_rev, revX_tup, x_end, ↓x_snil, ↓x_scons, ↓x_set, ↓x_par, ↓x_par3, ↓x_unp, ↓x_six, ↓x_exp, ↓x_app, ↓x_ret, ↓x_retN, ↓x_pass, ↓x_brk, ↓x_cont, ↓x_never, ↓x_if, ↓x_for, ↓x_while, refX_ref, v_get, v_getO, v_getI, v_lst, v_ift, v_iff, v_ifn, v_ifd, v_ife, v_if0, v_ifb, v_newF, v_newT, v_tup, v_add, v_sub, v_mul, v_fdiv, v_mod, v_pow, v_addT, v_addL, v_mulL, v_lt, v_le, v_gt, v_ge, v_eqI, v_neI, v_eqB, v_neB, v_ixT, v_ixL, v_slT, v_slL, v_slS, v_lenT, v_lenL, v_int, v_abs, v_max2, v_min2, v_gcd, v_tupT, v_tupL, v_lstT, v_lstL, v_tg1, v_tg2, v_tg3, t_bl, t_int, t_non, s_tup, s_lst, s_scr, isNon, CV.d, isTys, isTy, List.getElem?_cons_zero, List.getElem?_cons_succ, List.set_cons_zero, List.set_cons_succ, put_same, put_put, wipeE, tgSlots, pureSC, List.length_map, List.length_cons, List.length_nil, Bool.or_false, Bool.or_true, Bool.not_true, Bool.not_false, p_ix, p_six, p_len, p_tup, Ext_r, reduceCtorEq, decide_true, decide_false, decide_eq_true_eq, or_true, true_or, or_false, false_or, and_self, true_and, and_true, false_and, and_false, Bool.false_eq_true, Bool.true_eq_false, false_implies, true_implies, implies_true, not_true_eq_false, not_false_eq_true, startE, List.map_cons, List.map_nil, Nat.reduceAdd, Nat.reduceSub, Nat.reduceMul, List.replicate_succ, List.replicate_zero, List.cons_append, List.nil_append, decide_eq_false_iff_not, List.getElem?_map, Option.map_some, p_isL, p_appX, Bool.false_bne, Bool.true_bne, beq_self_eq_true]
      exact ⟨_, rfl⟩
    · rintro ρ M' ⟨rfl, y19, rfl⟩
      try simp only [↓x_var, ↓x_cst, ↓x_glob, ↓x_tup, ↓x_lst, ↓x_bin, ↓x_neg, ↓x_not, ↓x_and, ↓x_or, ↓x_cmp, ↓x_isN, ↓x_ite, ↓x_ix, ↓x_sl, ↓x_call, ↓x_call0, ↓x_blt, ↓x_isi, ↓x_lc, ↓x_nil, ↓x_cons, ↓x_and1, ↓x_and2, ↓x_or1, ↓x_or2, ↓x_ioN, ↓x_ioS, ↓x_seq, ↓x_rng1, ↓x_rng2, ↓x_pop, ↓x_disp, ↓x_rev, revX_tup, x_end, ↓x_snil, ↓x_scons, ↓x_set, ↓x_par, ↓x_par3, ↓x_unp, ↓x_six, ↓x_exp, ↓x_app, ↓x_ret, ↓x_retN, ↓x_pass, ↓x_brk, ↓x_cont, ↓x_never, ↓x_if, ↓x_for, ↓x_while, refX_ref, v_get, v_getO, v_getI, v_lst, v_ift, v_iff, v_ifn, v_ifd, v_ife, v_if0, v_ifb, v_newF, v_newT, v_tup, v_add, v_sub, v_mul, v_fdiv, v_mod, v_pow, v_addT, v_addL, v_mulL, v_lt, v_le, v_gt, v_ge, v_eqI, v_neI, v_eqB, v_neB, v_ixT, v_ixL, v_slT, v_slL, v_slS, v_lenT, v_lenL, v_int, v_abs, v_max2, v_min2, v_gcd, v_tupT, v_tupL, v_lstT, v_lstL, v_tg1, v_tg2, v_tg3, t_bl, t_int, t_non, s_tup, s_lst, s_scr, isNon, CV.d, isTys, isTy, List.getElem?_cons_zero, List.getElem?_cons_succ, List.set_cons_zero, List.set_cons_succ, put_same, put_put, wipeE, tgSlots, pureSC, List.length_map, List.length_cons, List.length_nil, Bool.or_false, Bool.or_true, Bool.not_true, Bool.not_false, p_ix, p_six, p_len, p_tup, Ext_r, reduceCtorEq, decide_true, decide_false, decide_eq_true_eq, or_true, true_or, or_false, false_or, and_self, true_and, and_true, false_and, and_false, Bool.false_eq_true, Bool.true_eq_false, false_implies, true_implies, implies_true, not_true_eq_false, not_false_eq_true, startE, List.map_cons, List.map_nil, Nat.reduceAdd, Nat.reduceSub, Nat.reduceMul, List.replicate_succ, List.replicate_zero, List.cons_append, List.nil_append, decide_eq_false_iff_not, List.getElem?_map, Option.map_some, p_isL, p_appX, Bool.false_bne, Bool.true_bne, beq_self_eq_true]
      exact hC _ _ _ _ _ _ _ _ _ _ _ _ _ _ _ _ _ _ _ hS3
theorem rest_turn {C : SC} {E : Exn → Mem → Prop} {s : D} {a : Addr} (hC : Fin s a C) {o : MO} (hS : Sta o) (x2 x5 x6 x7 x8 x9 x10 x11 x12 x13 x14 x15 x16 x17 x18 x19 : Option D) (xs zs : List Int)
    (hx1 : xs.length ≤ 8) (hx2 : ∀ x ∈ xs, Bit 20 x) (hx3 : Trd xs) (hz1 : zs.length ≤ 8) (hz2 : ∀ x ∈ zs, Bit 20 x) (hz3 : Trd zs) :
    seqX ΓL [] rest5 C E [some s, some (.ref a), x2, some (tp xs), some (tp zs), x5, x6, x7, x8, x9, x10, x11, x12, x13, x14, x15, x16, x17, x18, x19] (put M0 a o) := by
  unfold rest5 body5 ir_law
  try simp only [↓x_var, ↓x_cst, ↓x_glob, ↓x_tup, ↓x_lst, ↓x_bin, ↓x_neg, ↓x_not, ↓x_and, ↓x_or, ↓x_cmp, ↓x_isN, ↓x_ite, ↓x_ix, ↓x_sl, ↓x_call, ↓x_call0, ↓x_blt, ↓x_isi, ↓x_lc, ↓x_nil, ↓x_cons, ↓x_and1, ↓x_and2, ↓x_or1, ↓x_or2, ↓x_ioN, ↓x_ioS, ↓x_seq, ↓x_rng1, ↓x_rng2, ↓x_pop, ↓x_disp, ↓x_rev, revX_tup, x_end, ↓x_snil, ↓x_scons, ↓x_set, ↓x_par, ↓x_par3, ↓x_unp, ↓x_six, ↓x_exp, ↓x_app, ↓x_ret, ↓x_retN, ↓x_pass, ↓x_brk, ↓x_cont, ↓x_never, ↓x_if, ↓x_for, ↓x_while, refX_ref, v_get, v_getO, v_getI, v_lst, v_ift, v_iff, v_ifn, v_ifd, v_ife, v_if0, v_ifb, v_newF, v_newT, v_tup, v_add, v_sub, v_mul, v_fdiv, v_mod, v_pow, v_addT, v_addL, v_mulL, v_lt, v_le, v_gt, v_ge, v_eqI, v_neI, v_eqB, v_neB, v_ixT, v_ixL, v_slT, v_slL, v_slS, v_lenT, v_lenL, v_int, v_abs, v_max2, v_min2, v_gcd, v_tupT, v_tupL, v_lstT, v_lstL, v_tg1, v_tg2, v_tg3, t_bl, t_int, t_non, s_tup, s_lst, s_scr, isNon, CV.d, isTys, isTy, List.getElem?_cons_zero, List.getElem?_cons_succ, List.set_cons_zero, List.set_cons_succ, put_same, put_put, wipeE, tgSlots, pureSC, List.length_map, List.length_cons, List.length_nil, Bool.or_false, Bool.or_true, Bool.not_true, Bool.not_false, p_ix, p_six, p_len, p_tup, Ext_r, reduceCtorEq, decide_true, decide_false, decide_eq_true_eq, or_true, true_or, or_false, false_or, and_self, true_and, and_true, false_and, and_false, Bool.false_eq_true, Bool.true_eq_false, false_implies, true_implies, implies_true, not_true_eq_false, not_false_eq_true, startE, List.map_cons, List.map_nil, Nat.reduceAdd, Nat.reduceSub, Nat.reduceMul, List.replicate_succ, List.replicate_zero, List.cons_append, List.nil_append, decide_eq_false_iff_not, List.getElem?_map, Option.map_some, p_isL, p_appX, Bool.false_bne, Bool.true_bne, beq_self_eq_true]
  refine call_next hS (by decide) fun n0 o1 hS1 n1 n2 => ?_
  try simp only [↓x_var, ↓x_cst, ↓x_glob, ↓x_tup, ↓x_lst, ↓x_bin, ↓x_neg, ↓x_not, ↓x_and, ↓x_or, ↓x_cmp, ↓x_isN, ↓x_ite, ↓x_ix, ↓x_sl, ↓x_call, ↓x_call0, ↓x_blt, ↓x_isi, ↓x_lc, ↓x_nil, ↓x_cons, ↓x_and1, ↓x_and2, ↓x_or1, ↓x_or2, ↓x_ioN, ↓x_ioS, ↓x_seq, ↓x_rng1, ↓x_rng2, ↓x_pop, ↓x_disp, ↓x_rev, revX_tup, x_end, ↓x_snil, ↓x_scons, ↓x_set, ↓x_par, ↓x_par3, ↓x_unp, ↓x_six, ↓x_exp, ↓x_app, ↓x_ret, ↓x_retN, ↓x_pass, ↓x_brk, ↓x_cont, ↓x_never, ↓x_if, ↓x_for, ↓x_while, refX_ref, v_get, v_getO, v_getI, v_lst, v_ift, v_iff, v_ifn, v_ifd, v_ife, v_if0, v_ifb, v_newF, v_newT, v_tup, v_add, v_sub, v_mul, v_fdiv, v_mod, v_pow, v_addT, v_addL, v_mulL, v_lt, v_le, v_gt, v_ge, v_eqI, v_neI, v_eqB, v_neB, v_ixT, v_ixL, v_slT, v_slL, v_slS, v_lenT, v_lenL, v_int, v_abs, v_max2, v_min2, v_gcd, v_tupT, v_tupL, v_lstT, v_lstL, v_tg1, v_tg2, v_tg3, t_bl, t_int, t_non, s_tup, s_lst, s_scr, isNon, CV.d, isTys, isTy, List.getElem?_cons_zero, List.getElem?_cons_succ, List.set_cons_zero, List.set_cons_succ, put_same, put_put, wipeE, tgSlots, pureSC, List.length_map, List.length_cons, List.length_nil, Bool.or_false, Bool.or_true, Bool.not_true, Bool.not_false, p_ix, p_six, p_len, p_tup, Ext_r, reduceCtorEq, decide_true, decide_false, decide_eq_true_eq, or_true, true_or, or_false, false_or, and_self, true_and, and_true, false_and, and_false, Bool.false_eq_true, Bool.true_eq_false, false_implies, true_implies, implies_true, not_true_eq_false, not_false_eq_true, startE, List.map_cons, List.map_nil, Nat.reduceAdd, Nat.reduceSub, Nat.reduceMul, List.replicate_succ, List.replicate_zero, List.cons_append, List.nil_append, decide_eq_false_iff_not, List.getElem?_map, Option.map_some, p_isL, p_appX, Bool.false_bne, Bool.true_bne, beq_self_eq_true]
  refine ⟨by decide, ?_⟩
  refine call_next hS1 (by decide) fun m o2 hS2 m1 m2 => ?_
  obtain ⟨m, rfl⟩ := Int.eq_ofNat_of_zero_le m1
  have bn : Bit 20 (n0 - 4) := show (n0 - 4).natAbs < 2 ^ 20 by omega
  generalize n0 - 4 = n at bn
  try simp only [↓x_var, ↓x_cst, ↓x_glob, ↓x_tup, ↓x_lst, ↓x_bin, ↓x_neg, ↓x_not, ↓x_and, ↓x_or, ↓x_cmp, ↓x_isN, ↓x_ite, ↓x_ix, ↓x_sl, ↓x_call, ↓x_call0, ↓x_blt, ↓x_isi, ↓x_lc, ↓x_nil, ↓x_cons, ↓x_and1, ↓x_and2, ↓x_or1, ↓x_or2, ↓x_ioN, ↓x_ioS, ↓x_seq, ↓x_rng1, ↓x_rng2, ↓x_pop, ↓x_disp, ↓x_rev, revX_tup, x_end, ↓x_snil, ↓x_scons, ↓x_set, ↓x_par, ↓x_par3, ↓x_unp, ↓x_six, ↓x_exp, ↓x_app, ↓x_ret, ↓x_retN, ↓x_pass, ↓x_brk, ↓x_cont, ↓x_never, ↓x_if, ↓x_for, ↓x_while, refX_ref, v_get, v_getO, v_getI, v_lst, v_ift, v_iff, v_ifn, v_ifd, v_ife, v_if0, v_ifb, v_newF, v_newT, v_tup, v_add, v_sub, v_mul, v_fdiv, v_mod, v_pow, v_addT, v_addL, v_mulL, v_lt, v_le, v_gt, v_ge, v_eqI, v_neI, v_eqB, v_neB, v_ixT, v_ixL, v_slT, v_slL, v_slS, v_lenT, v_lenL, v_int, v_abs, v_max2, v_min2, v_gcd, v_tupT, v_tupL, v_lstT, v_lstL, v_tg1, v_tg2, v_tg3, t_bl, t_int, t_non, s_tup, s_lst, s_scr, isNon, CV.d, isTys, isTy, List.getElem?_cons_zero, List.getElem?_cons_succ, List.set_cons_zero, List.set_cons_succ, put_same, put_put, wipeE, tgSlots, pureSC, List.length_map, List.length_cons, List.length_nil, Bool.or_false, Bool.or_true, Bool.not_true, Bool.not_false, p_ix, p_six, p_len, p_tup, Ext_r, reduceCtorEq, decide_true, decide_false, decide_eq_true_eq, or_true, true_or, or_false, false_or, and_self, true_and, and_true, false_and, and_false, Bool.false_eq_true, Bool.true_eq_false, false_implies, true_implies, implies_true, not_true_eq_false, not_false_eq_true, startE, List.map_cons, List.map_nil, Nat.reduceAdd, Nat.reduceSub, Nat.reduceMul, List.replicate_succ, List.replicate_zero, List.cons_append, List.nil_append, decide_eq_false_iff_not, List.getElem?_map, Option.map_some, p_isL, p_appX, Bool.false_bne, Bool.true_bne, beq_self_eq_true]
  refine ⟨by decide, by omega, ?_⟩
  refine for_list (fun k : Nat => .int k) (List.range m) (fun done ρ M' => M' = put M0 a o2 ∧ ∃ y10, ρ = [some s, some (.ref a), x2, some (tp xs), some (tp zs), x5, some (.int (max xs.length zs.length)), some (.int n), some (.int m), some (tp (powP xs done.length)), y10, x11, x12, x13, x14, x15, x16, x17, x18, x19]) (by rw [Int.toNat_natCast]) ⟨rfl, x10, rfl⟩ ?_ ?_
  · rintro done k rest ρ M' he ⟨rfl, y10, rfl⟩
    have hl := congrArg List.length he
    rw [List.length_append, List.length_cons, List.length_range] at hl
    obtain ⟨g1, g2⟩ := pow_ok (by omega) hx2 done.length (by omega)
    try simp only [↓x_var, ↓x_cst, ↓x_glob, ↓x_tup, ↓x_lst, ↓x_bin, ↓x_neg, ↓x_not, ↓x_and, ↓x_or, ↓x_cmp, ↓x_isN, ↓x_ite, ↓x_ix, ↓x_sl, ↓x_call, ↓x_call0, ↓x_blt, ↓x_isi, ↓x_lc, ↓x_nil, ↓x_cons, ↓x_and1, ↓x_and2, ↓x_or1, ↓x_or2, ↓x_ioN, ↓x_ioS, ↓x_seq, ↓x_rng1, ↓x_rng2, ↓x_pop, ↓x_disp, ↓x_rev, revX_tup, x_end, ↓x_snil, ↓x_scons, ↓x_set, ↓x_par, ↓x_par3, ↓x_unp, ↓x_six, ↓x_exp, ↓x_app, ↓x_ret, ↓x_retN, ↓x_pass, ↓x_brk, ↓x_cont, ↓x_never, ↓x_if, ↓x_for, ↓x_while, refX_ref, v_get, v_getO, v_getI, v_lst, v_ift, v_iff, v_ifn, v_ifd, v_ife, v_if0, v_ifb, v_newF, v_newT, v_tup, v_add, v_sub, v_mul, v_fdiv, v_mod, v_pow, v_addT, v_addL, v_mulL, v_lt, v_le, v_gt, v_ge, v_eqI, v_neI, v_eqB, v_neB, v_ixT, v_ixL, v_slT, v_slL, v_slS, v_lenT, v_lenL, v_int, v_abs, v_max2, v_min2, v_gcd, v_tupT, v_tupL, v_lstT, v_lstL, v_tg1, v_tg2, v_tg3, t_bl, t_int, t_non, s_tup, s_lst, s_scr, isNon, CV.d, isTys, isTy, List.getElem?_cons_zero, List.getElem?_cons_succ, List.set_cons_zero, List.set_cons_succ, put_same, put_put, wipeE, tgSlots, pureSC, List.length_map, List.length_cons, List.length_nil, Bool.or_false, Bool.or_true, Bool.not_true, Bool.not_false, p_ix, p_six, p_len, p_tup, Ext_r, reduceCtorEq, decide_true, decide_false, decide_eq_true_eq, or_true, true_or, or_false, false_or, and_self, true_and, and_true, false_and, and_false, Bool.false_eq_true, Bool.true_eq_false, false_implies, true_implies, implies_true, not_true_eq_false, not_false_eq_true, startE, List.map_cons, List.map_nil, Nat.reduceAdd, Nat.reduceSub, Nat.reduceMul, List.replicate_succ, List.replicate_zero, List.cons_append, List.nil_append, decide_eq_false_iff_not, List.getElem?_map, Option.map_some, p_isL, p_appX, Bool.false_bne, Bool.true_bne, beq_self_eq_true]
    refine call_pf (powP xs done.length, xs) rfl ⟨show (powP xs done.length).length ≤ 200 from by omega, show xs.length ≤ 200 from by omega, fun z hz => (g2 z hz).up (by omega), fun z hz => (hx2 z hz).up (by decide)⟩ ?_
    try simp only [↓x_var, ↓x_cst, ↓x_glob, ↓x_tup, ↓x_lst, ↓x_bin, ↓x_neg, ↓x_not, ↓x_and, ↓x_or, ↓x_cmp, ↓x_isN, ↓x_ite, ↓x_ix, ↓x_sl, ↓x_call, ↓x_call0, ↓x_blt, ↓x_isi, ↓x_lc, ↓x_nil, ↓x_cons, ↓x_and1, ↓x_and2, ↓x_or1, ↓x_or2, ↓x_ioN, ↓x_ioS, ↓x_seq, ↓x_rng1, ↓x_rng2, ↓x_pop, ↓x_disp, ↓x_rev, revX_tup, x_end, ↓x_snil, ↓x_scons, ↓x_set, ↓x_par, ↓x_par3, ↓x_unp, ↓x_six, ↓x_exp, ↓x_app, ↓x_ret, ↓x_retN, ↓x_pass, ↓x_brk, ↓x_cont, ↓x_never, ↓x_if, ↓x_for, ↓x_while, refX_ref, v_get, v_getO, v_getI, v_lst, v_ift, v_iff, v_ifn, v_ifd, v_ife, v_if0, v_ifb, v_newF, v_newT, v_tup, v_add, v_sub, v_mul, v_fdiv, v_mod, v_pow, v_addT, v_addL, v_mulL, v_lt, v_le, v_gt, v_ge, v_eqI, v_neI, v_eqB, v_neB, v_ixT, v_ixL, v_slT, v_slL, v_slS, v_lenT, v_lenL, v_int, v_abs, v_max2, v_min2, v_gcd, v_tupT, v_tupL, v_lstT, v_lstL, v_tg1, v_tg2, v_tg3, t_bl, t_int, t_non, s_tup, s_lst, s_scr, isNon, CV.d, isTys, isTy, List.getElem?_cons_zero, List.getElem?_cons_succ, List.set_cons_zero, List.set_cons_succ, put_same, put_put, wipeE, tgSlots, pureSC, List.length_map, List.length_cons, List.length_nil, Bool.or_false, Bool.or_true, Bool.not_true, Bool.not_false, p_ix, p_six, p_len, p_tup, Ext_r, reduceCtorEq, decide_true, decide_false, decide_eq_true_eq, or_true, true_or, or_false, false_or, and_self, true_and, and_true, false_and, and_false, Bool.false_eq_true, Bool.true_eq_false, false_implies, true_implies, implies_true, not_true_eq_false, not_false_eq_true, startE, List.map_cons, List.map_nil, Nat.reduceAdd, Nat.reduceSub, Nat.reduceMul, List.replicate_succ, List.replicate_zero, List.cons_append, List.nil_append, decide_eq_false_iff_not, List.getElem?_map, Option.map_some, p_isL, p_appX, Bool.false_bne, Bool.true_bne, beq_self_eq_true]
    refine ⟨some (.int k), ?_⟩
    rw [List.length_append]
    rfl
  rintro ρ M' ⟨rfl, y10, rfl⟩
  rw [List.length_range]
  clear hS hS1
  have mx : (max (xs.length : Int) zs.length).toNat = max xs.length zs.length := by omega
  try simp only [↓x_var, ↓x_cst, ↓x_glob, ↓x_tup, ↓x_lst, ↓x_bin, ↓x_neg, ↓x_not, ↓x_and, ↓x_or, ↓x_cmp, ↓x_isN, ↓x_ite, ↓x_ix, ↓x_sl, ↓x_call, ↓x_call0, ↓x_blt, ↓x_isi, ↓x_lc, ↓x_nil, ↓x_cons, ↓x_and1, ↓x_and2, ↓x_or1, ↓x_or2, ↓x_ioN, ↓x_ioS, ↓x_seq, ↓x_rng1, ↓x_rng2, ↓x_pop, ↓x_disp, ↓x_rev, revX_tup, x_end, ↓x_snil, ↓x_scons, ↓x_set, ↓x_par, ↓x_par3, ↓x_unp, ↓x_six, ↓x_exp, ↓x_app, ↓x_ret, ↓x_retN, ↓x_pass, ↓x_brk, ↓x_cont, ↓x_never, ↓x_if, ↓x_for, ↓x_while, refX_ref, v_get, v_getO, v_getI, v_lst, v_ift, v_iff, v_ifn, v_ifd, v_ife, v_if0, v_ifb, v_newF, v_newT, v_tup, v_add, v_sub, v_mul, v_fdiv, v_mod, v_pow, v_addT, v_addL, v_mulL, v_lt, v_le, v_gt, v_ge, v_eqI, v_neI, v_eqB, v_neB, v_ixT, v_ixL, v_slT, v_slL, v_slS, v_lenT, v_lenL, v_int, v_abs, v_max2, v_min2, v_gcd, v_tupT, v_tupL, v_lstT, v_lstL, v_tg1, v_tg2, v_tg3, t_bl, t_int, t_non, s_tup, s_lst, s_scr, isNon, CV.d, isTys, isTy, List.getElem?_cons_zero, List.getElem?_cons_succ, List.set_cons_zero, List.set_cons_succ, put_same, put_put, wipeE, tgSlots, pureSC, List.length_map, List.length_cons, List.length_nil, Bool.or_false, Bool.or_true, Bool.not_true, Bool.not_false, p_ix, p_six, p_len, p_tup, Ext_r, reduceCtorEq, decide_true, decide_false, decide_eq_true_eq, or_true, true_or, or_false, false_or, and_self, true_and, and_true, false_and, and_false, Bool.false_eq_true, Bool.true_eq_false, false_implies, true_implies, implies_true, not_true_eq_false, not_false_eq_true, startE, List.map_cons, List.map_nil, Nat.reduceAdd, Nat.reduceSub, Nat.reduceMul, List.replicate_succ, List.replicate_zero, List.cons_append, List.nil_append, decide_eq_false_iff_not, List.getElem?_map, Option.map_some, p_isL, p_appX, Bool.false_bne, Bool.true_bne, beq_self_eq_true]
  have lr : (List.range (max xs.length zs.length)).length ≤ sizeLine := by rw [List.length_range]; unfold sizeLine; omega
  refine ⟨by omega, lc_pure (fun k : Nat => .int k) (fun k => .int (xs.getD k 0 + zs.getD k 0)) (List.range (max xs.length zs.length)) (by rw [mx]) lr trivial (fun k _ => ?_) ?_⟩
  · try simp only [↓x_var, ↓x_cst, ↓x_glob, ↓x_tup, ↓x_lst, ↓x_bin, ↓x_neg, ↓x_not, ↓x_and, ↓x_or, ↓x_cmp, ↓x_isN, ↓x_ite, ↓x_ix, ↓x_sl, ↓x_call, ↓x_call0, ↓x_blt, ↓x_isi, ↓x_lc, ↓x_nil, ↓x_cons, ↓x_and1, ↓x_and2, ↓x_or1, ↓x_or2, ↓x_ioN, ↓x_ioS, ↓x_seq, ↓x_rng1, ↓x_rng2, ↓x_pop, ↓x_disp, ↓x_rev, revX_tup, x_end, ↓x_snil, ↓x_scons, ↓x_set, ↓x_par, ↓x_par3, ↓x_unp, ↓x_six, ↓x_exp, ↓x_app, ↓x_ret, ↓x_retN, ↓x_pass, ↓x_brk, ↓x_cont, ↓x_never, ↓x_if, ↓x_for, ↓x_while, refX_ref, v_get, v_getO, v_getI, v_lst, v_ift, v_iff, v_ifn, v_ifd, v_ife, v_if0, v_ifb, v_newF, v_newT, v_tup, v_add, v_sub, v_mul, v_fdiv, v_mod, v_pow, v_addT, v_addL, v_mulL, v_lt, v_le, v_gt, v_ge, v_eqI, v_neI, v_eqB, v_neB, v_ixT, v_ixL, v_slT, v_slL, v_slS, v_lenT, v_lenL, v_int, v_abs, v_max2, v_min2, v_gcd, v_tupT, v_tupL, v_lstT, v_lstL, v_tg1, v_tg2, v_tg3, t_bl, t_int, t_non, s_tup, s_lst, s_scr, isNon, CV.d, isTys, isTy, List.getElem?_cons_zero, List.getElem?_cons_succ, List.set_cons_zero, List.set_cons_succ, put_same, put_put, wipeE, tgSlots, pureSC, List.length_map, List.length_cons, List.length_nil, Bool.or_false, Bool.or_true, Bool.not_true, Bool.not_false, p_ix, p_six, p_len, p_tup, Ext_r, reduceCtorEq, decide_true, decide_false, decide_eq_true_eq, or_true, true_or, or_false, false_or, and_self, true_and, and_true, false_and, and_false, Bool.false_eq_true, Bool.true_eq_false, false_implies, true_implies, implies_true, not_true_eq_false, not_false_eq_true, startE, List.map_cons, List.map_nil, Nat.reduceAdd, Nat.reduceSub, Nat.reduceMul, List.replicate_succ, List.replicate_zero, List.cons_append, List.nil_append, decide_eq_false_iff_not, List.getElem?_map, Option.map_some, p_isL, p_appX, Bool.false_bne, Bool.true_bne, beq_self_eq_true]
    refine call_pf (xs, k) rfl trivial ?_
    try simp only [↓x_var, ↓x_cst, ↓x_glob, ↓x_tup, ↓x_lst, ↓x_bin, ↓x_neg, ↓x_not, ↓x_and, ↓x_or, ↓x_cmp, ↓x_isN, ↓x_ite, ↓x_ix, ↓x_sl, ↓x_call, ↓x_call0, ↓x_blt, ↓x_isi, ↓x_lc, ↓x_nil, ↓x_cons, ↓x_and1, ↓x_and2, ↓x_or1, ↓x_or2, ↓x_ioN, ↓x_ioS, ↓x_seq, ↓x_rng1, ↓x_rng2, ↓x_pop, ↓x_disp, ↓x_rev, revX_tup, x_end, ↓x_snil, ↓x_scons, ↓x_set, ↓x_par, ↓x_par3, ↓x_unp, ↓x_six, ↓x_exp, ↓x_app, ↓x_ret, ↓x_retN, ↓x_pass, ↓x_brk, ↓x_cont, ↓x_never, ↓x_if, ↓x_for, ↓x_while, refX_ref, v_get, v_getO, v_getI, v_lst, v_ift, v_iff, v_ifn, v_ifd, v_ife, v_if0, v_ifb, v_newF, v_newT, v_tup, v_add, v_sub, v_mul, v_fdiv, v_mod, v_pow, v_addT, v_addL, v_mulL, v_lt, v_le, v_gt, v_ge, v_eqI, v_neI, v_eqB, v_neB, v_ixT, v_ixL, v_slT, v_slL, v_slS, v_lenT, v_lenL, v_int, v_abs, v_max2, v_min2, v_gcd, v_tupT, v_tupL, v_lstT, v_lstL, v_tg1, v_tg2, v_tg3, t_bl, t_int, t_non, s_tup, s_lst, s_scr, isNon, CV.d, isTys, isTy, List.getElem?_cons_zero, List.getElem?_cons_succ, List.set_cons_zero, List.set_cons_succ, put_same, put_put, wipeE, tgSlots, pureSC, List.length_map, List.length_cons, List.length_nil, Bool.or_false, Bool.or_true, Bool.not_true, Bool.not_false, p_ix, p_six, p_len, p_tup, Ext_r, reduceCtorEq, decide_true, decide_false, decide_eq_true_eq, or_true, true_or, or_false, false_or, and_self, true_and, and_true, false_and, and_false, Bool.false_eq_true, Bool.true_eq_false, false_implies, true_implies, implies_true, not_true_eq_false, not_false_eq_true, startE, List.map_cons, List.map_nil, Nat.reduceAdd, Nat.reduceSub, Nat.reduceMul, List.replicate_succ, List.replicate_zero, List.cons_append, List.nil_append, decide_eq_false_iff_not, List.getElem?_map, Option.map_some, p_isL, p_appX, Bool.false_bne, Bool.true_bne, beq_self_eq_true]
    refine call_pf (zs, k) rfl trivial ?_
    try simp only [↓x_var, ↓x_cst, ↓x_glob, ↓x_tup, ↓x_lst, ↓x_bin, ↓x_neg, ↓x_not, ↓x_and, ↓x_or, ↓x_cmp, ↓x_isN, ↓x_ite, ↓x_ix, ↓x_sl, ↓x_call, ↓x_call0, ↓x_blt, ↓x_isi, ↓x_lc, ↓x_nil, ↓x_cons, ↓x_and1, ↓x_and2, ↓x_or1, ↓x_or2, ↓x_ioN, ↓x_ioS, ↓x_seq, ↓x_rng1, ↓x_rng2, ↓x_pop, ↓x_disp, ↓x_rev, revX_tup, x_end, ↓x_snil, ↓x_scons, ↓x_set, ↓x_par, ↓x_par3, ↓x_unp, ↓x_six, ↓x_exp, ↓x_app, ↓x_ret, ↓x_retN, ↓x_pass, ↓x_brk, ↓x_cont, ↓x_never, ↓x_if, ↓x_for, ↓x_while, refX_ref, v_get, v_getO, v_getI, v_lst, v_ift, v_iff, v_ifn, v_ifd, v_ife, v_if0, v_ifb, v_newF, v_newT, v_tup, v_add, v_sub, v_mul, v_fdiv, v_mod, v_pow, v_addT, v_addL, v_mulL, v_lt, v_le, v_gt, v_ge, v_eqI, v_neI, v_eqB, v_neB, v_ixT, v_ixL, v_slT, v_slL, v_slS, v_lenT, v_lenL, v_int, v_abs, v_max2, v_min2, v_gcd, v_tupT, v_tupL, v_lstT, v_lstL, v_tg1, v_tg2, v_tg3, t_bl, t_int, t_non, s_tup, s_lst, s_scr, isNon, CV.d, isTys, isTy, List.getElem?_cons_zero, List.getElem?_cons_succ, List.set_cons_zero, List.set_cons_succ, put_same, put_put, wipeE, tgSlots, pureSC, List.length_map, List.length_cons, List.length_nil, Bool.or_false, Bool.or_true, Bool.not_true, Bool.not_false, p_ix, p_six, p_len, p_tup, Ext_r, reduceCtorEq, decide_true, decide_false, decide_eq_true_eq, or_true, true_or, or_false, false_or, and_self, true_and, and_true, false_and, and_false, Bool.false_eq_true, Bool.true_eq_false, false_implies, true_implies, implies_true, not_true_eq_false, not_false_eq_true, startE, List.map_cons, List.map_nil, Nat.reduceAdd, Nat.reduceSub, Nat.reduceMul, List.replicate_succ, List.replicate_zero, List.cons_append, List.nil_append, decide_eq_false_iff_not, List.getElem?_map, Option.map_some, p_isL, p_appX, Bool.false_bne, Bool.true_bne, beq_self_eq_true]
  try simp only [↓x_var, ↓x_cst, ↓x_glob, ↓x_tup, ↓x_lst, ↓x_bin, ↓x_neg, ↓x_not, ↓x_and, ↓x_or, ↓x_cmp, ↓x_isN, ↓x_ite, ↓x_ix, ↓x_sl, ↓x_call, ↓x_call0, ↓x_blt, ↓x_isi, ↓x_lc, ↓x_nil, ↓x_cons, ↓x_and1, ↓x_and2, ↓x_or1, ↓x_or2, ↓x_ioN, ↓x_ioS, ↓x_seq, ↓x_rng1, ↓x_rng2, ↓x_pop, ↓x_disp, ↓x_rev, revX_tup, x_end, ↓x_snil, ↓x_scons, ↓x_set, ↓x_par, ↓x_par3, ↓x_unp, ↓x_six, ↓x_exp, ↓x_app, ↓x_ret, ↓x_retN, ↓x_pass, ↓x_brk, ↓x_cont, ↓x_never, ↓x_if, ↓x_for, ↓x_while, refX_ref, v_get, v_getO, v_getI, v_lst, v_ift, v_iff, v_ifn, v_ifd, v_ife, v_if0, v_ifb, v_newF, v_newT, v_tup, v_add, v_sub, v_mul, v_fdiv, v_mod, v_pow, v_addT, v_addL, v_mulL, v_lt, v_le, v_gt, v_ge, v_eqI, v_neI, v_eqB, v_neB, v_ixT, v_ixL, v_slT, v_slL, v_slS, v_lenT, v_lenL, v_int, v_abs, v_max2, v_min2, v_gcd, v_tupT, v_tupL, v_lstT, v_lstL, v_tg1, v_tg2, v_tg3, t_bl, t_int, t_non, s_tup, s_lst, s_scr, isNon, CV.d, isTys, isTy, List.getElem?_cons_zero, List.getElem?_cons_succ, List.set_cons_zero, List.set_cons_succ, put_same, put_put, wipeE, tgSlots, pureSC, List.length_map, List.length_cons, List.length_nil, Bool.or_false, Bool.or_true, Bool.not_true, Bool.not_false, p_ix, p_six, p_len, p_tup, Ext_r, reduceCtorEq, decide_true, decide_false, decide_eq_true_eq, or_true, true_or, or_false, false_or, and_self, true_and, and_true, false_and, and_false, Bool.false_eq_true, Bool.true_eq_false, false_implies, true_implies, implies_true, not_true_eq_false, not_false_eq_true, startE, List.map_cons, List.map_nil, Nat.reduceAdd, Nat.reduceSub, Nat.reduceMul, List.replicate_succ, List.replicate_zero, List.cons_append, List.nil_append, decide_eq_false_iff_not, List.getElem?_map, Option.map_some, p_isL, p_appX, Bool.false_bne, Bool.true_bne, beq_self_eq_true]
  refine call_trimM (fun k => xs.getD k 0 + zs.getD k 0) (List.range (max xs.length zs.length)) (by rw [List.length_range]; omega) ?_
  try simp only [↓x_var, ↓x_cst, ↓x_glob, ↓x_tup, ↓x_lst, ↓x_bin, ↓x_neg, ↓x_not, ↓x_and, ↓x_or, ↓x_cmp, ↓x_isN, ↓x_ite, ↓x_ix, ↓x_sl, ↓x_call, ↓x_call0, ↓x_blt, ↓x_isi, ↓x_lc, ↓x_nil, ↓x_cons, ↓x_and1, ↓x_and2, ↓x_or1, ↓x_or2, ↓x_ioN, ↓x_ioS, ↓x_seq, ↓x_rng1, ↓x_rng2, ↓x_pop, ↓x_disp, ↓x_rev, revX_tup, x_end, ↓x_snil, ↓x_scons, ↓x_set, ↓x_par, ↓x_par3, ↓x_unp, ↓x_six, ↓x_exp, ↓x_app, ↓x_ret, ↓x_retN, ↓x_pass, ↓x_brk, ↓x_cont, ↓x_never, ↓x_if, ↓x_for, ↓x_while, refX_ref, v_get, v_getO, v_getI, v_lst, v_ift, v_iff, v_ifn, v_ifd, v_ife, v_if0, v_ifb, v_newF, v_newT, v_tup, v_add, v_sub, v_mul, v_fdiv, v_mod, v_pow, v_addT, v_addL, v_mulL, v_lt, v_le, v_gt, v_ge, v_eqI, v_neI, v_eqB, v_neB, v_ixT, v_ixL, v_slT, v_slL, v_slS, v_lenT, v_lenL, v_int, v_abs, v_max2, v_min2, v_gcd, v_tupT, v_tupL, v_lstT, v_lstL, v_tg1, v_tg2, v_tg3, t_bl, t_int, t_non, s_tup, s_lst, s_scr, isNon, CV.d, isTys, isTy, List.getElem?_cons_zero, List.getElem?_cons_succ, List.set_cons_zero, List.set_cons_succ, put_same, put_put, wipeE, tgSlots, pureSC, List.length_map, List.length_cons, List.length_nil, Bool.or_false, Bool.or_true, Bool.not_true, Bool.not_false, p_ix, p_six, p_len, p_tup, Ext_r, reduceCtorEq, decide_true, decide_false, decide_eq_true_eq, or_true, true_or, or_false, false_or, and_self, true_and, and_true, false_and, and_false, Bool.false_eq_true, Bool.true_eq_false, false_implies, true_implies, implies_true, not_true_eq_false, not_false_eq_true, startE, List.map_cons, List.map_nil, Nat.reduceAdd, Nat.reduceSub, Nat.reduceMul, List.replicate_succ, List.replicate_zero, List.cons_append, List.nil_append, decide_eq_false_iff_not, List.getElem?_map, Option.map_some, p_isL, p_appX, Bool.false_bne, Bool.true_bne, beq_self_eq_true]
  refine ⟨by omega, lc_pure (fun k : Nat => .int k) (fun k => .int (xs.getD k 0 - zs.getD k 0)) (List.range (max xs.length zs.length)) (by rw [mx]) lr trivial (fun k _ => ?_) ?_⟩
  · try simp only [↓x_var, ↓x_cst, ↓x_glob, ↓x_tup, ↓x_lst, ↓x_bin, ↓x_neg, ↓x_not, ↓x_and, ↓x_or, ↓x_cmp, ↓x_isN, ↓x_ite, ↓x_ix, ↓x_sl, ↓x_call, ↓x_call0, ↓x_blt, ↓x_isi, ↓x_lc, ↓x_nil, ↓x_cons, ↓x_and1, ↓x_and2, ↓x_or1, ↓x_or2, ↓x_ioN, ↓x_ioS, ↓x_seq, ↓x_rng1, ↓x_rng2, ↓x_pop, ↓x_disp, ↓x_rev, revX_tup, x_end, ↓x_snil, ↓x_scons, ↓x_set, ↓x_par, ↓x_par3, ↓x_unp, ↓x_six, ↓x_exp, ↓x_app, ↓x_ret, ↓x_retN, ↓x_pass, ↓x_brk, ↓x_cont, ↓x_never, ↓x_if, ↓x_for, ↓x_while, refX_ref, v_get, v_getO, v_getI, v_lst, v_ift, v_iff, v_ifn, v_ifd, v_ife, v_if0, v_ifb, v_newF, v_newT, v_tup, v_add, v_sub, v_mul, v_fdiv, v_mod, v_pow, v_addT, v_addL, v_mulL, v_lt, v_le, v_gt, v_ge, v_eqI, v_neI, v_eqB, v_neB, v_ixT, v_ixL, v_slT, v_slL, v_slS, v_lenT, v_lenL, v_int, v_abs, v_max2, v_min2, v_gcd, v_tupT, v_tupL, v_lstT, v_lstL, v_tg1, v_tg2, v_tg3, t_bl, t_int, t_non, s_tup, s_lst, s_scr, isNon, CV.d, isTys, isTy, List.getElem?_cons_zero, List.getElem?_cons_succ, List.set_cons_zero, List.set_cons_succ, put_same, put_put, wipeE, tgSlots, pureSC, List.length_map, List.length_cons, List.length_nil, Bool.or_false, Bool.or_true, Bool.not_true, Bool.not_false, p_ix, p_six, p_len, p_tup, Ext_r, reduceCtorEq, decide_true, decide_false, decide_eq_true_eq, or_true, true_or, or_false, false_or, and_self, true_and, and_true, false_and, and_false, Bool.false_eq_true, Bool.true_eq_false, false_implies, true_implies, implies_true, not_true_eq_false, not_false_eq_true, startE, List.map_cons, List.map_nil, Nat.reduceAdd, Nat.reduceSub, Nat.reduceMul, List.replicate_succ, List.replicate_zero, List.cons_append, List.nil_append, decide_eq_false_iff_not, List.getElem?_map, Option.map_some, p_isL, p_appX, Bool.false_bne, Bool.true_bne, beq_self_eq_true]
    refine call_pf (xs, k) rfl trivial ?_
    try simp only [↓x_var, ↓x_cst, ↓x_glob, ↓x_tup, ↓x_lst, ↓x_bin, ↓x_neg, ↓x_not, ↓x_and, ↓x_or, ↓x_cmp, ↓x_isN, ↓x_ite, ↓x_ix, ↓x_sl, ↓x_call, ↓x_call0, ↓x_blt, ↓x_isi, ↓x_lc, ↓x_nil, ↓x_cons, ↓x_and1, ↓x_and2, ↓x_or1, ↓x_or2, ↓x_ioN, ↓x_ioS, ↓x_seq, ↓x_rng1, ↓x_rng2, ↓x_pop, ↓x_disp, ↓x_rev, revX_tup, x_end, ↓x_snil, ↓x_scons, ↓x_set, ↓x_par, ↓x_par3, ↓x_unp, ↓x_six, ↓x_exp, ↓x_app, ↓x_ret, ↓x_retN, ↓x_pass, ↓x_brk, ↓x_cont, ↓x_never, ↓x_if, ↓x_for, ↓x_while, refX_ref, v_get, v_getO, v_getI, v_lst, v_ift, v_iff, v_ifn, v_ifd, v_ife, v_if0, v_ifb, v_newF, v_newT, v_tup, v_add, v_sub, v_mul, v_fdiv, v_mod, v_pow, v_addT, v_addL, v_mulL, v_lt, v_le, v_gt, v_ge, v_eqI, v_neI, v_eqB, v_neB, v_ixT, v_ixL, v_slT, v_slL, v_slS, v_lenT, v_lenL, v_int, v_abs, v_max2, v_min2, v_gcd, v_tupT, v_tupL, v_lstT, v_lstL, v_tg1, v_tg2, v_tg3, t_bl, t_int, t_non, s_tup, s_lst, s_scr, isNon, CV.d, isTys, isTy, List.getElem?_cons_zero, List.getElem?_cons_succ, List.set_cons_zero, List.set_cons_succ, put_same, put_put, wipeE, tgSlots, pureSC, List.length_map, List.length_cons, List.length_nil, Bool.or_false, Bool.or_true, Bool.not_true, Bool.not_false, p_ix, p_six, p_len, p_tup, Ext_r, reduceCtorEq, decide_true, decide_false, decide_eq_true_eq, or_true, true_or, or_false, false_or, and_self, true_and, and_true, false_and, and_false, Bool.false_eq_true, Bool.true_eq_false, false_implies, true_implies, implies_true, not_true_eq_false, not_false_eq_true, startE, List.map_cons, List.map_nil, Nat.reduceAdd, Nat.reduceSub, Nat.reduceMul, List.replicate_succ, List.replicate_zero, List.cons_append, List.nil_append, decide_eq_false_iff_not, List.getElem?_map, Option.map_some, p_isL, p_appX, Bool.false_bne, Bool.true_bne, beq_self_eq_true]
    refine call_pf (zs, k) rfl trivial ?_
    try simp only [↓x_var, ↓x_cst, ↓x_glob, ↓x_tup, ↓x_lst, ↓x_bin, ↓x_neg, ↓x_not, ↓x_and, ↓x_or, ↓x_cmp, ↓x_isN, ↓x_ite, ↓x_ix, ↓x_sl, ↓x_call, ↓x_call0, ↓x_blt, ↓x_isi, ↓x_lc, ↓x_nil, ↓x_cons, ↓x_and1, ↓x_and2, ↓x_or1, ↓x_or2, ↓x_ioN, ↓x_ioS, ↓x_seq, ↓x_rng1, ↓x_rng2, ↓x_pop, ↓x_disp, ↓x_rev, revX_tup, x_end, ↓x_snil, ↓x_scons, ↓x_set, ↓x_par, ↓x_par3, ↓x_unp, ↓x_six, ↓x_exp, ↓x_app, ↓x_ret, ↓x_retN, ↓x_pass, ↓x_brk, ↓x_cont, ↓x_never, ↓x_if, ↓x_for, ↓x_while, refX_ref, v_get, v_getO, v_getI, v_lst, v_ift, v_iff, v_ifn, v_ifd, v_ife, v_if0, v_ifb, v_newF, v_newT, v_tup, v_add, v_sub, v_mul, v_fdiv, v_mod, v_pow, v_addT, v_addL, v_mulL, v_lt, v_le, v_gt, v_ge, v_eqI, v_neI, v_eqB, v_neB, v_ixT, v_ixL, v_slT, v_slL, v_slS, v_lenT, v_lenL, v_int, v_abs, v_max2, v_min2, v_gcd, v_tupT, v_tupL, v_lstT, v_lstL, v_tg1, v_tg2, v_tg3, t_bl, t_int, t_non, s_tup, s_lst, s_scr, isNon, CV.d, isTys, isTy, List.getElem?_cons_zero, List.getElem?_cons_succ, List.set_cons_zero, List.set_cons_succ, put_same, put_put, wipeE, tgSlots, pureSC, List.length_map, List.length_cons, List.length_nil, Bool.or_false, Bool.or_true, Bool.not_true, Bool.not_false, p_ix, p_six, p_len, p_tup, Ext_r, reduceCtorEq, decide_true, decide_false, decide_eq_true_eq, or_true, true_or, or_false, false_or, and_self, true_and, and_true, false_and, and_false, Bool.false_eq_true, Bool.true_eq_false, false_implies, true_implies, implies_true, not_true_eq_false, not_false_eq_true, startE, List.map_cons, List.map_nil, Nat.reduceAdd, Nat.reduceSub, Nat.reduceMul, List.replicate_succ, List.replicate_zero, List.cons_append, List.nil_append, decide_eq_false_iff_not, List.getElem?_map, Option.map_some, p_isL, p_appX, Bool.false_bne, Bool.true_bne, beq_self_eq_true]
  try simp only [↓x_var, ↓x_cst, ↓x_glob, ↓x_tup, ↓x_lst, ↓x_bin, ↓x_neg, ↓x_not, ↓x_and, ↓x_or, ↓x_cmp, ↓x_isN, ↓x_ite, ↓x_ix, ↓x_sl, ↓x_call, ↓x_call0, ↓x_blt, ↓x_isi, ↓x_lc, ↓x_nil, ↓x_cons, ↓x_and1, ↓x_and2, ↓x_or1, ↓x_or2, ↓x_ioN, ↓x_ioS, ↓x_seq, ↓x_rng1, ↓x_rng2, ↓x_pop, ↓x_disp, ↓x_rev, revX_tup, x_end, ↓x_snil, ↓x_scons, ↓x_set, ↓x_par, ↓x_par3, ↓x_unp, ↓x_six, ↓x_exp, ↓x_app, ↓x_ret, ↓x_retN, ↓x_pass, ↓x_brk, ↓x_cont, ↓x_never, ↓x_if, ↓x_for, ↓x_while, refX_ref, v_get, v_getO, v_getI, v_lst, v_ift, v_iff, v_ifn, v_ifd, v_ife, v_if0, v_ifb, v_newF, v_newT, v_tup, v_add, v_sub, v_mul, v_fdiv, v_mod, v_pow, v_addT, v_addL, v_mulL, v_lt, v_le, v_gt, v_ge, v_eqI, v_neI, v_eqB, v_neB, v_ixT, v_ixL, v_slT, v_slL, v_slS, v_lenT, v_lenL, v_int, v_abs, v_max2, v_min2, v_gcd, v_tupT, v_tupL, v_lstT, v_lstL, v_tg1, v_tg2, v_tg3, t_bl, t_int, t_non, s_tup, s_lst, s_scr, isNon, CV.d, isTys, isTy, List.getElem?_cons_zero, List.getElem?_cons_succ, List.set_cons_zero, List.set_cons_succ, put_same, put_put, wipeE, tgSlots, pureSC, List.length_map, List.length_cons, List.length_nil, Bool.or_false, Bool.or_true, Bool.not_true, Bool.not_false, p_ix, p_six, p_len, p_tup, Ext_r, reduceCtorEq, decide_true, decide_false, decide_eq_true_eq, or_true, true_or, or_false, false_or, and_self, true_and, and_true, false_and, and_false, Bool.false_eq_true, Bool.true_eq_false, false_implies, true_implies, implies_true, not_true_eq_false, not_false_eq_true, startE, List.map_cons, List.map_nil, Nat.reduceAdd, Nat.reduceSub, Nat.reduceMul, List.replicate_succ, List.replicate_zero, List.cons_append, List.nil_append, decide_eq_false_iff_not, List.getElem?_map, Option.map_some, p_isL, p_appX, Bool.false_bne, Bool.true_bne, beq_self_eq_true]
  refine call_trimM (fun k => xs.getD k 0 - zs.getD k 0) (List.range (max xs.length zs.length)) (by rw [List.length_range]; omega) ?_
  try simp only [↓x_var, ↓x_cst, ↓x_glob, ↓x_tup, ↓x_lst, ↓x_bin, ↓x_neg, ↓x_not, ↓x_and, ↓x_or, ↓x_cmp, ↓x_isN, ↓x_ite, ↓x_ix, ↓x_sl, ↓x_call, ↓x_call0, ↓x_blt, ↓x_isi, ↓x_lc, ↓x_nil, ↓x_cons, ↓x_and1, ↓x_and2, ↓x_or1, ↓x_or2, ↓x_ioN, ↓x_ioS, ↓x_seq, ↓x_rng1, ↓x_rng2, ↓x_pop, ↓x_disp, ↓x_rev, revX_tup, x_end, ↓x_snil, ↓x_scons, ↓x_set, ↓x_par, ↓x_par3, ↓x_unp, ↓x_six, ↓x_exp, ↓x_app, ↓x_ret, ↓x_retN, ↓x_pass, ↓x_brk, ↓x_cont, ↓x_never, ↓x_if, ↓x_for, ↓x_while, refX_ref, v_get, v_getO, v_getI, v_lst, v_ift, v_iff, v_ifn, v_ifd, v_ife, v_if0, v_ifb, v_newF, v_newT, v_tup, v_add, v_sub, v_mul, v_fdiv, v_mod, v_pow, v_addT, v_addL, v_mulL, v_lt, v_le, v_gt, v_ge, v_eqI, v_neI, v_eqB, v_neB, v_ixT, v_ixL, v_slT, v_slL, v_slS, v_lenT, v_lenL, v_int, v_abs, v_max2, v_min2, v_gcd, v_tupT, v_tupL, v_lstT, v_lstL, v_tg1, v_tg2, v_tg3, t_bl, t_int, t_non, s_tup, s_lst, s_scr, isNon, CV.d, isTys, isTy, List.getElem?_cons_zero, List.getElem?_cons_succ, List.set_cons_zero, List.set_cons_succ, put_same, put_put, wipeE, tgSlots, pureSC, List.length_map, List.length_cons, List.length_nil, Bool.or_false, Bool.or_true, Bool.not_true, Bool.not_false, p_ix, p_six, p_len, p_tup, Ext_r, reduceCtorEq, decide_true, decide_false, decide_eq_true_eq, or_true, true_or, or_false, false_or, and_self, true_and, and_true, false_and, and_false, Bool.false_eq_true, Bool.true_eq_false, false_implies, true_implies, implies_true, not_true_eq_false, not_false_eq_true, startE, List.map_cons, List.map_nil, Nat.reduceAdd, Nat.reduceSub, Nat.reduceMul, List.replicate_succ, List.replicate_zero, List.cons_append, List.nil_append, decide_eq_false_iff_not, List.getElem?_map, Option.map_some, p_isL, p_appX, Bool.false_bne, Bool.true_bne, beq_self_eq_true]
  refine call_pf (xs, zs) rfl ⟨show xs.length ≤ 200 from by omega, show zs.length ≤ 200 from by omega, fun z hz => (hx2 z hz).up (by decide), fun z hz => (hz2 z hz).up (by decide)⟩ ?_
  try simp only [↓x_var, ↓x_cst, ↓x_glob, ↓x_tup, ↓x_lst, ↓x_bin, ↓x_neg, ↓x_not, ↓x_and, ↓x_or, ↓x_cmp, ↓x_isN, ↓x_ite, ↓x_ix, ↓x_sl, ↓x_call, ↓x_call0, ↓x_blt, ↓x_isi, ↓x_lc, ↓x_nil, ↓x_cons, ↓x_and1, ↓x_and2, ↓x_or1, ↓x_or2, ↓x_ioN, ↓x_ioS, ↓x_seq, ↓x_rng1, ↓x_rng2, ↓x_pop, ↓x_disp, ↓x_rev, revX_tup, x_end, ↓x_snil, ↓x_scons, ↓x_set, ↓x_par, ↓x_par3, ↓x_unp, ↓x_six, ↓x_exp, ↓x_app, ↓x_ret, ↓x_retN, ↓x_pass, ↓x_brk, ↓x_cont, ↓x_never, ↓x_if, ↓x_for, ↓x_while, refX_ref, v_get, v_getO, v_getI, v_lst, v_ift, v_iff, v_ifn, v_ifd, v_ife, v_if0, v_ifb, v_newF, v_newT, v_tup, v_add, v_sub, v_mul, v_fdiv, v_mod, v_pow, v_addT, v_addL, v_mulL, v_lt, v_le, v_gt, v_ge, v_eqI, v_neI, v_eqB, v_neB, v_ixT, v_ixL, v_slT, v_slL, v_slS, v_lenT, v_lenL, v_int, v_abs, v_max2, v_min2, v_gcd, v_tupT, v_tupL, v_lstT, v_lstL, v_tg1, v_tg2, v_tg3, t_bl, t_int, t_non, s_tup, s_lst, s_scr, isNon, CV.d, isTys, isTy, List.getElem?_cons_zero, List.getElem?_cons_succ, List.set_cons_zero, List.set_cons_succ, put_same, put_put, wipeE, tgSlots, pureSC, List.length_map, List.length_cons, List.length_nil, Bool.or_false, Bool.or_true, Bool.not_true, Bool.not_false, p_ix, p_six, p_len, p_tup, Ext_r, reduceCtorEq, decide_true, decide_false, decide_eq_true_eq, or_true, true_or, or_false, false_or, and_self, true_and, and_true, false_and, and_false, Bool.false_eq_true, Bool.true_eq_false, false_implies, true_implies, implies_true, not_true_eq_false, not_false_eq_true, startE, List.map_cons, List.map_nil, Nat.reduceAdd, Nat.reduceSub, Nat.reduceMul, List.replicate_succ, List.replicate_zero, List.cons_append, List.nil_append, decide_eq_false_iff_not, List.getElem?_map, Option.map_some, p_isL, p_appX, Bool.false_bne, Bool.true_bne, beq_self_eq_true]
  repeat (first | refine And.intro (by decide) ?_ | refine And.intro ?_ (by decide))
  refine lc_pure D.int (fun x => .int (n * x)) xs rfl (by unfold sizeLine; omega) trivial (fun x hx => ?_) ?_
  · try simp only [↓x_var, ↓x_cst, ↓x_glob, ↓x_tup, ↓x_lst, ↓x_bin, ↓x_neg, ↓x_not, ↓x_and, ↓x_or, ↓x_cmp, ↓x_isN, ↓x_ite, ↓x_ix, ↓x_sl, ↓x_call, ↓x_call0, ↓x_blt, ↓x_isi, ↓x_lc, ↓x_nil, ↓x_cons, ↓x_and1, ↓x_and2, ↓x_or1, ↓x_or2, ↓x_ioN, ↓x_ioS, ↓x_seq, ↓x_rng1, ↓x_rng2, ↓x_pop, ↓x_disp, ↓x_rev, revX_tup, x_end, ↓x_snil, ↓x_scons, ↓x_set, ↓x_par, ↓x_par3, ↓x_unp, ↓x_six, ↓x_exp, ↓x_app, ↓x_ret, ↓x_retN, ↓x_pass, ↓x_brk, ↓x_cont, ↓x_never, ↓x_if, ↓x_for, ↓x_while, refX_ref, v_get, v_getO, v_getI, v_lst, v_ift, v_iff, v_ifn, v_ifd, v_ife, v_if0, v_ifb, v_newF, v_newT, v_tup, v_add, v_sub, v_mul, v_fdiv, v_mod, v_pow, v_addT, v_addL, v_mulL, v_lt, v_le, v_gt, v_ge, v_eqI, v_neI, v_eqB, v_neB, v_ixT, v_ixL, v_slT, v_slL, v_slS, v_lenT, v_lenL, v_int, v_abs, v_max2, v_min2, v_gcd, v_tupT, v_tupL, v_lstT, v_lstL, v_tg1, v_tg2, v_tg3, t_bl, t_int, t_non, s_tup, s_lst, s_scr, isNon, CV.d, isTys, isTy, List.getElem?_cons_zero, List.getElem?_cons_succ, List.set_cons_zero, List.set_cons_succ, put_same, put_put, wipeE, tgSlots, pureSC, List.length_map, List.length_cons, List.length_nil, Bool.or_false, Bool.or_true, Bool.not_true, Bool.not_false, p_ix, p_six, p_len, p_tup, Ext_r, reduceCtorEq, decide_true, decide_false, decide_eq_true_eq, or_true, true_or, or_false, false_or, and_self, true_and, and_true, false_and, and_false, Bool.false_eq_true, Bool.true_eq_false, false_implies, true_implies, implies_true, not_true_eq_false, not_false_eq_true, startE, List.map_cons, List.map_nil, Nat.reduceAdd, Nat.reduceSub, Nat.reduceMul, List.replicate_succ, List.replicate_zero, List.cons_append, List.nil_append, decide_eq_false_iff_not, List.getElem?_map, Option.map_some, p_isL, p_appX, Bool.false_bne, Bool.true_bne, beq_self_eq_true]
    exact mulOk_of bn (hx2 x hx)
  try simp only [↓x_var, ↓x_cst, ↓x_glob, ↓x_tup, ↓x_lst, ↓x_bin, ↓x_neg, ↓x_not, ↓x_and, ↓x_or, ↓x_cmp, ↓x_isN, ↓x_ite, ↓x_ix, ↓x_sl, ↓x_call, ↓x_call0, ↓x_blt, ↓x_isi, ↓x_lc, ↓x_nil, ↓x_cons, ↓x_and1, ↓x_and2, ↓x_or1, ↓x_or2, ↓x_ioN, ↓x_ioS, ↓x_seq, ↓x_rng1, ↓x_rng2, ↓x_pop, ↓x_disp, ↓x_rev, revX_tup, x_end, ↓x_snil, ↓x_scons, ↓x_set, ↓x_par, ↓x_par3, ↓x_unp, ↓x_six, ↓x_exp, ↓x_app, ↓x_ret, ↓x_retN, ↓x_pass, ↓x_brk, ↓x_cont, ↓x_never, ↓x_if, ↓x_for, ↓x_while, refX_ref, v_get, v_getO, v_getI, v_lst, v_ift, v_iff, v_ifn, v_ifd, v_ife, v_if0, v_ifb, v_newF, v_newT, v_tup, v_add, v_sub, v_mul, v_fdiv, v_mod, v_pow, v_addT, v_addL, v_mulL, v_lt, v_le, v_gt, v_ge, v_eqI, v_neI, v_eqB, v_neB, v_ixT, v_ixL, v_slT, v_slL, v_slS, v_lenT, v_lenL, v_int, v_abs, v_max2, v_min2, v_gcd, v_tupT, v_tupL, v_lstT, v_lstL, v_tg1, v_tg2, v_tg3, t_bl, t_int, t_non, s_tup, s_lst, s_scr, isNon, CV.d, isTys, isTy, List.getElem?_cons_zero, List.getElem?_cons_succ, List.set_cons_zero, List.set_cons_succ, put_same, put_put, wipeE, tgSlots, pureSC, List.length_map, List.length_cons, List.length_nil, Bool.or_false, Bool.or_true, Bool.not_true, Bool.not_false, p_ix, p_six, p_len, p_tup, Ext_r, reduceCtorEq, decide_true, decide_false, decide_eq_true_eq, or_true, true_or, or_false, false_or, and_self, true_and, and_true, false_and, and_false, Bool.false_eq_true, Bool.true_eq_false, false_implies, true_implies, implies_true, not_true_eq_false, not_false_eq_true, startE, List.map_cons, List.map_nil, Nat.reduceAdd, Nat.reduceSub, Nat.reduceMul, List.replicate_succ, List.replicate_zero, List.cons_append, List.nil_append, decide_eq_false_iff_not, List.getElem?_map, Option.map_some, p_isL, p_appX, Bool.false_bne, Bool.true_bne, beq_self_eq_true]
  refine call_trimM (fun x => n * x) xs (by omega) ?_
  try simp only [↓x_var, ↓x_cst, ↓x_glob, ↓x_tup, ↓x_lst, ↓x_bin, ↓x_neg, ↓x_not, ↓x_and, ↓x_or, ↓x_cmp, ↓x_isN, ↓x_ite, ↓x_ix, ↓x_sl, ↓x_call, ↓x_call0, ↓x_blt, ↓x_isi, ↓x_lc, ↓x_nil, ↓x_cons, ↓x_and1, ↓x_and2, ↓x_or1, ↓x_or2, ↓x_ioN, ↓x_ioS, ↓x_seq, ↓x_rng1, ↓x_rng2, ↓x_pop, ↓x_disp, ↓x_rev, revX_tup, x_end, ↓x_snil, ↓x_scons, ↓x_set, ↓x_par, ↓x_par3, ↓x_unp, ↓x_six, ↓x_exp, ↓x_app, ↓x_ret, ↓x_retN, ↓x_pass, ↓x_brk, ↓x_cont, ↓x_never, ↓x_if, ↓x_for, ↓x_while, refX_ref, v_get, v_getO, v_getI, v_lst, v_ift, v_iff, v_ifn, v_ifd, v_ife, v_if0, v_ifb, v_newF, v_newT, v_tup, v_add, v_sub, v_mul, v_fdiv, v_mod, v_pow, v_addT, v_addL, v_mulL, v_lt, v_le, v_gt, v_ge, v_eqI, v_neI, v_eqB, v_neB, v_ixT, v_ixL, v_slT, v_slL, v_slS, v_lenT, v_lenL, v_int, v_abs, v_max2, v_min2, v_gcd, v_tupT, v_tupL, v_lstT, v_lstL, v_tg1, v_tg2, v_tg3, t_bl, t_int, t_non, s_tup, s_lst, s_scr, isNon, CV.d, isTys, isTy, List.getElem?_cons_zero, List.getElem?_cons_succ, List.set_cons_zero, List.set_cons_succ, put_same, put_put, wipeE, tgSlots, pureSC, List.length_map, List.length_cons, List.length_nil, Bool.or_false, Bool.or_true, Bool.not_true, Bool.not_false, p_ix, p_six, p_len, p_tup, Ext_r, reduceCtorEq, decide_true, decide_false, decide_eq_true_eq, or_true, true_or, or_false, false_or, and_self, true_and, and_true, false_and, and_false, Bool.false_eq_true, Bool.true_eq_false, false_implies, true_implies, implies_true, not_true_eq_false, not_false_eq_true, startE, List.map_cons, List.map_nil, Nat.reduceAdd, Nat.reduceSub, Nat.reduceMul, List.replicate_succ, List.replicate_zero, List.cons_append, List.nil_append, decide_eq_false_iff_not, List.getElem?_map, Option.map_some, p_isL, p_appX, Bool.false_bne, Bool.true_bne, beq_self_eq_true]
  have e1 : ((xs.length : Int) - 1).toNat = xs.length - 1 := by omega
  refine ⟨by omega, lc_pure (fun k : Nat => .int (1 + (k : Int))) (fun k => .int (((k + 1 : Nat) : Int) * xs.getD (k + 1) 0)) (List.range (xs.length - 1)) (by rw [← e1]) (by rw [List.length_range]; unfold sizeLine; omega) trivial (fun k hk => ?_) ?_⟩
  · have hk' := List.mem_range.mp hk
    have ex : xs[k + 1]? = some (xs[k + 1]'(by omega)) := List.getElem?_eq_getElem (by omega)
    have ei : 1 + (k : Int) = ((k + 1 : Nat) : Int) := by omega
    try simp only [↓x_var, ↓x_cst, ↓x_glob, ↓x_tup, ↓x_lst, ↓x_bin, ↓x_neg, ↓x_not, ↓x_and, ↓x_or, ↓x_cmp, ↓x_isN, ↓x_ite, ↓x_ix, ↓x_sl, ↓x_call, ↓x_call0, ↓x_blt, ↓x_isi, ↓x_lc, ↓x_nil, ↓x_cons, ↓x_and1, ↓x_and2, ↓x_or1, ↓x_or2, ↓x_ioN, ↓x_ioS, ↓x_seq, ↓x_rng1, ↓x_rng2, ↓x_pop, ↓x_disp, ↓x_rev, revX_tup, x_end, ↓x_snil, ↓x_scons, ↓x_set, ↓x_par, ↓x_par3, ↓x_unp, ↓x_six, ↓x_exp, ↓x_app, ↓x_ret, ↓x_retN, ↓x_pass, ↓x_brk, ↓x_cont, ↓x_never, ↓x_if, ↓x_for, ↓x_while, refX_ref, v_get, v_getO, v_getI, v_lst, v_ift, v_iff, v_ifn, v_ifd, v_ife, v_if0, v_ifb, v_newF, v_newT, v_tup, v_add, v_sub, v_mul, v_fdiv, v_mod, v_pow, v_addT, v_addL, v_mulL, v_lt, v_le, v_gt, v_ge, v_eqI, v_neI, v_eqB, v_neB, v_ixT, v_ixL, v_slT, v_slL, v_slS, v_lenT, v_lenL, v_int, v_abs, v_max2, v_min2, v_gcd, v_tupT, v_tupL, v_lstT, v_lstL, v_tg1, v_tg2, v_tg3, t_bl, t_int, t_non, s_tup, s_lst, s_scr, isNon, CV.d, isTys, isTy, List.getElem?_cons_zero, List.getElem?_cons_succ, List.set_cons_zero, List.set_cons_succ, put_same, put_put, wipeE, tgSlots, pureSC, List.length_map, List.length_cons, List.length_nil, Bool.or_false, Bool.or_true, Bool.not_true, Bool.not_false, p_ix, p_six, p_len, p_tup, Ext_r, reduceCtorEq, decide_true, decide_false, decide_eq_true_eq, or_true, true_or, or_false, false_or, and_self, true_and, and_true, false_and, and_false, Bool.false_eq_true, Bool.true_eq_false, false_implies, true_implies, implies_true, not_true_eq_false, not_false_eq_true, startE, List.map_cons, List.map_nil, Nat.reduceAdd, Nat.reduceSub, Nat.reduceMul, List.replicate_succ, List.replicate_zero, List.cons_append, List.nil_append, decide_eq_false_iff_not, List.getElem?_map, Option.map_some, p_isL, p_appX, Bool.false_bne, Bool.true_bne, beq_self_eq_true,  ei, atI_nat, ex, List.getD_eq_getElem?_getD, Option.getD_some]
    exact mulOk_of (a := 20) (show (((k + 1 : Nat) : Int)).natAbs < 2 ^ 20 by omega) (hx2 _ (List.getElem_mem _))
  try simp only [↓x_var, ↓x_cst, ↓x_glob, ↓x_tup, ↓x_lst, ↓x_bin, ↓x_neg, ↓x_not, ↓x_and, ↓x_or, ↓x_cmp, ↓x_isN, ↓x_ite, ↓x_ix, ↓x_sl, ↓x_call, ↓x_call0, ↓x_blt, ↓x_isi, ↓x_lc, ↓x_nil, ↓x_cons, ↓x_and1, ↓x_and2, ↓x_or1, ↓x_or2, ↓x_ioN, ↓x_ioS, ↓x_seq, ↓x_rng1, ↓x_rng2, ↓x_pop, ↓x_disp, ↓x_rev, revX_tup, x_end, ↓x_snil, ↓x_scons, ↓x_set, ↓x_par, ↓x_par3, ↓x_unp, ↓x_six, ↓x_exp, ↓x_app, ↓x_ret, ↓x_retN, ↓x_pass, ↓x_brk, ↓x_cont, ↓x_never, ↓x_if, ↓x_for, ↓x_while, refX_ref, v_get, v_getO, v_getI, v_lst, v_ift, v_iff, v_ifn, v_ifd, v_ife, v_if0, v_ifb, v_newF, v_newT, v_tup, v_add, v_sub, v_mul, v_fdiv, v_mod, v_pow, v_addT, v_addL, v_mulL, v_lt, v_le, v_gt, v_ge, v_eqI, v_neI, v_eqB, v_neB, v_ixT, v_ixL, v_slT, v_slL, v_slS, v_lenT, v_lenL, v_int, v_abs, v_max2, v_min2, v_gcd, v_tupT, v_tupL, v_lstT, v_lstL, v_tg1, v_tg2, v_tg3, t_bl, t_int, t_non, s_tup, s_lst, s_scr, isNon, CV.d, isTys, isTy, List.getElem?_cons_zero, List.getElem?_cons_succ, List.set_cons_zero, List.set_cons_succ, put_same, put_put, wipeE, tgSlots, pureSC, List.length_map, List.length_cons, List.length_nil, Bool.or_false, Bool.or_true, Bool.not_true, Bool.not_false, p_ix, p_six, p_len, p_tup, Ext_r, reduceCtorEq, decide_true, decide_false, decide_eq_true_eq, or_true, true_or, or_false, false_or, and_self, true_and, and_true, false_and, and_false, Bool.false_eq_true, Bool.true_eq_false, false_implies, true_implies, implies_true, not_true_eq_false, not_false_eq_true, startE, List.map_cons, List.map_nil, Nat.reduceAdd, Nat.reduceSub, Nat.reduceMul, List.replicate_succ, List.replicate_zero, List.cons_append, List.nil_append, decide_eq_false_iff_not, List.getElem?_map, Option.map_some, p_isL, p_appX, Bool.false_bne, Bool.true_bne, beq_self_eq_true]
  refine call_trimM (fun k => ((k + 1 : Nat) : Int) * xs.getD (k + 1) 0) (List.range (xs.length - 1)) (by rw [List.length_range]; omega) ?_
  try simp only [↓x_var, ↓x_cst, ↓x_glob, ↓x_tup, ↓x_lst, ↓x_bin, ↓x_neg, ↓x_not, ↓x_and, ↓x_or, ↓x_cmp, ↓x_isN, ↓x_ite, ↓x_ix, ↓x_sl, ↓x_call, ↓x_call0, ↓x_blt, ↓x_isi, ↓x_lc, ↓x_nil, ↓x_cons, ↓x_and1, ↓x_and2, ↓x_or1, ↓x_or2, ↓x_ioN, ↓x_ioS, ↓x_seq, ↓x_rng1, ↓x_rng2, ↓x_pop, ↓x_disp, ↓x_rev, revX_tup, x_end, ↓x_snil, ↓x_scons, ↓x_set, ↓x_par, ↓x_par3, ↓x_unp, ↓x_six, ↓x_exp, ↓x_app, ↓x_ret, ↓x_retN, ↓x_pass, ↓x_brk, ↓x_cont, ↓x_never, ↓x_if, ↓x_for, ↓x_while, refX_ref, v_get, v_getO, v_getI, v_lst, v_ift, v_iff, v_ifn, v_ifd, v_ife, v_if0, v_ifb, v_newF, v_newT, v_tup, v_add, v_sub, v_mul, v_fdiv, v_mod, v_pow, v_addT, v_addL, v_mulL, v_lt, v_le, v_gt, v_ge, v_eqI, v_neI, v_eqB, v_neB, v_ixT, v_ixL, v_slT, v_slL, v_slS, v_lenT, v_lenL, v_int, v_abs, v_max2, v_min2, v_gcd, v_tupT, v_tupL, v_lstT, v_lstL, v_tg1, v_tg2, v_tg3, t_bl, t_int, t_non, s_tup, s_lst, s_scr, isNon, CV.d, isTys, isTy, List.getElem?_cons_zero, List.getElem?_cons_succ, List.set_cons_zero, List.set_cons_succ, put_same, put_put, wipeE, tgSlots, pureSC, List.length_map, List.length_cons, List.length_nil, Bool.or_false, Bool.or_true, Bool.not_true, Bool.not_false, p_ix, p_six, p_len, p_tup, Ext_r, reduceCtorEq, decide_true, decide_false, decide_eq_true_eq, or_true, true_or, or_false, false_or, and_self, true_and, and_true, false_and, and_false, Bool.false_eq_true, Bool.true_eq_false, false_implies, true_implies, implies_true, not_true_eq_false, not_false_eq_true, startE, List.map_cons, List.map_nil, Nat.reduceAdd, Nat.reduceSub, Nat.reduceMul, List.replicate_succ, List.replicate_zero, List.cons_append, List.nil_append, decide_eq_false_iff_not, List.getElem?_map, Option.map_some, p_isL, p_appX, Bool.false_bne, Bool.true_bne, beq_self_eq_true]
  refine call_pf xs rfl trivial ?_
  try simp only [↓x_var, ↓x_cst, ↓x_glob, ↓x_tup, ↓x_lst, ↓x_bin, ↓x_neg, ↓x_not, ↓x_and, ↓x_or, ↓x_cmp, ↓x_isN, ↓x_ite, ↓x_ix, ↓x_sl, ↓x_call, ↓x_call0, ↓x_blt, ↓x_isi, ↓x_lc, ↓x_nil, ↓x_cons, ↓x_and1, ↓x_and2, ↓x_or1, ↓x_or2, ↓x_ioN, ↓x_ioS, ↓x_seq, ↓x_rng1, ↓x_rng2, ↓x_pop, ↓x_disp, ↓x_rev, revX_tup, x_end, ↓x_snil, ↓x_scons, ↓x_set, ↓x_par, ↓x_par3, ↓x_unp, ↓x_six, ↓x_exp, ↓x_app, ↓x_ret, ↓x_retN, ↓x_pass, ↓x_brk, ↓x_cont, ↓x_never, ↓x_if, ↓x_for, ↓x_while, refX_ref, v_get, v_getO, v_getI, v_lst, v_ift, v_iff, v_ifn, v_ifd, v_ife, v_if0, v_ifb, v_newF, v_newT, v_tup, v_add, v_sub, v_mul, v_fdiv, v_mod, v_pow, v_addT, v_addL, v_mulL, v_lt, v_le, v_gt, v_ge, v_eqI, v_neI, v_eqB, v_neB, v_ixT, v_ixL, v_slT, v_slL, v_slS, v_lenT, v_lenL, v_int, v_abs, v_max2, v_min2, v_gcd, v_tupT, v_tupL, v_lstT, v_lstL, v_tg1, v_tg2, v_tg3, t_bl, t_int, t_non, s_tup, s_lst, s_scr, isNon, CV.d, isTys, isTy, List.getElem?_cons_zero, List.getElem?_cons_succ, List.set_cons_zero, List.set_cons_succ, put_same, put_put, wipeE, tgSlots, pureSC, List.length_map, List.length_cons, List.length_nil, Bool.or_false, Bool.or_true, Bool.not_true, Bool.not_false, p_ix, p_six, p_len, p_tup, Ext_r, reduceCtorEq, decide_true, decide_false, decide_eq_true_eq, or_true, true_or, or_false, false_or, and_self, true_and, and_true, false_and, and_false, Bool.false_eq_true, Bool.true_eq_false, false_implies, true_implies, implies_true, not_true_eq_false, not_false_eq_true, startE, List.map_cons, List.map_nil, Nat.reduceAdd, Nat.reduceSub, Nat.reduceMul, List.replicate_succ, List.replicate_zero, List.cons_append, List.nil_append, decide_eq_false_iff_not, List.getElem?_map, Option.map_some, p_isL, p_appX, Bool.false_bne, Bool.true_bne, beq_self_eq_true]
  repeat (first | refine And.intro (by decide) ?_ | refine And.intro ?_ (by decide))
  refine call_pf (xs, zs) rfl ⟨show xs.length ≤ 500 from by omega, show zs.length ≤ 500 from by omega⟩ ?_
  try simp only [↓x_var, ↓x_cst, ↓x_glob, ↓x_tup, ↓x_lst, ↓x_bin, ↓x_neg, ↓x_not, ↓x_and, ↓x_or, ↓x_cmp, ↓x_isN, ↓x_ite, ↓x_ix, ↓x_sl, ↓x_call, ↓x_call0, ↓x_blt, ↓x_isi, ↓x_lc, ↓x_nil, ↓x_cons, ↓x_and1, ↓x_and2, ↓x_or1, ↓x_or2, ↓x_ioN, ↓x_ioS, ↓x_seq, ↓x_rng1, ↓x_rng2, ↓x_pop, ↓x_disp, ↓x_rev, revX_tup, x_end, ↓x_snil, ↓x_scons, ↓x_set, ↓x_par, ↓x_par3, ↓x_unp, ↓x_six, ↓x_exp, ↓x_app, ↓x_ret, ↓x_retN, ↓x_pass, ↓x_brk, ↓x_cont, ↓x_never, ↓x_if, ↓x_for, ↓x_while, refX_ref, v_get, v_getO, v_getI, v_lst, v_ift, v_iff, v_ifn, v_ifd, v_ife, v_if0, v_ifb, v_newF, v_newT, v_tup, v_add, v_sub, v_mul, v_fdiv, v_mod, v_pow, v_addT, v_addL, v_mulL, v_lt, v_le, v_gt, v_ge, v_eqI, v_neI, v_eqB, v_neB, v_ixT, v_ixL, v_slT, v_slL, v_slS, v_lenT, v_lenL, v_int, v_abs, v_max2, v_min2, v_gcd, v_tupT, v_tupL, v_lstT, v_lstL, v_tg1, v_tg2, v_tg3, t_bl, t_int, t_non, s_tup, s_lst, s_scr, isNon, CV.d, isTys, isTy, List.getElem?_cons_zero, List.getElem?_cons_succ, List.set_cons_zero, List.set_cons_succ, put_same, put_put, wipeE, tgSlots, pureSC, List.length_map, List.length_cons, List.length_nil, Bool.or_false, Bool.or_true, Bool.not_true, Bool.not_false, p_ix, p_six, p_len, p_tup, Ext_r, reduceCtorEq, decide_true, decide_false, decide_eq_true_eq, or_true, true_or, or_false, false_or, and_self, true_and, and_true, false_and, and_false, Bool.false_eq_true, Bool.true_eq_false, false_implies, true_implies, implies_true, not_true_eq_false, not_false_eq_true, startE, List.map_cons, List.map_nil, Nat.reduceAdd, Nat.reduceSub, Nat.reduceMul, List.replicate_succ, List.replicate_zero, List.cons_append, List.nil_append, decide_eq_false_iff_not, List.getElem?_map, Option.map_some, p_isL, p_appX, Bool.false_bne, Bool.true_bne, beq_self_eq_true]
  refine call_pf (xs, zs) rfl ⟨show xs.length ≤ 500 from by omega, show zs.length ≤ 500 from by omega, fun z hz => (hz2 z hz).up (by decide), hz3⟩ ?_
  try simp only [↓x_var, ↓x_cst, ↓x_glob, ↓x_tup, ↓x_lst, ↓x_bin, ↓x_neg, ↓x_not, ↓x_and, ↓x_or, ↓x_cmp, ↓x_isN, ↓x_ite, ↓x_ix, ↓x_sl, ↓x_call, ↓x_call0, ↓x_blt, ↓x_isi, ↓x_lc, ↓x_nil, ↓x_cons, ↓x_and1, ↓x_and2, ↓x_or1, ↓x_or2, ↓x_ioN, ↓x_ioS, ↓x_seq, ↓x_rng1, ↓x_rng2, ↓x_pop, ↓x_disp, ↓x_rev, revX_tup, x_end, ↓x_snil, ↓x_scons, ↓x_set, ↓x_par, ↓x_par3, ↓x_unp, ↓x_six, ↓x_exp, ↓x_app, ↓x_ret, ↓x_retN, ↓x_pass, ↓x_brk, ↓x_cont, ↓x_never, ↓x_if, ↓x_for, ↓x_while, refX_ref, v_get, v_getO, v_getI, v_lst, v_ift, v_iff, v_ifn, v_ifd, v_ife, v_if0, v_ifb, v_newF, v_newT, v_tup, v_add, v_sub, v_mul, v_fdiv, v_mod, v_pow, v_addT, v_addL, v_mulL, v_lt, v_le, v_gt, v_ge, v_eqI, v_neI, v_eqB, v_neB, v_ixT, v_ixL, v_slT, v_slL, v_slS, v_lenT, v_lenL, v_int, v_abs, v_max2, v_min2, v_gcd, v_tupT, v_tupL, v_lstT, v_lstL, v_tg1, v_tg2, v_tg3, t_bl, t_int, t_non, s_tup, s_lst, s_scr, isNon, CV.d, isTys, isTy, List.getElem?_cons_zero, List.getElem?_cons_succ, List.set_cons_zero, List.set_cons_succ, put_same, put_put, wipeE, tgSlots, pureSC, List.length_map, List.length_cons, List.length_nil, Bool.or_false, Bool.or_true, Bool.not_true, Bool.not_false, p_ix, p_six, p_len, p_tup, Ext_r, reduceCtorEq, decide_true, decide_false, decide_eq_true_eq, or_true, true_or, or_false, false_or, and_self, true_and, and_true, false_and, and_false, Bool.false_eq_true, Bool.true_eq_false, false_implies, true_implies, implies_true, not_true_eq_false, not_false_eq_true, startE, List.map_cons, List.map_nil, Nat.reduceAdd, Nat.reduceSub, Nat.reduceMul, List.replicate_succ, List.replicate_zero, List.cons_append, List.nil_append, decide_eq_false_iff_not, List.getElem?_map, Option.map_some, p_isL, p_appX, Bool.false_bne, Bool.true_bne, beq_self_eq_true]
  refine call_pf (xs, zs) rfl ⟨show xs.length ≤ 200 from by omega, show zs.length ≤ 200 from by omega, fun z hz => (hx2 z hz).up (by decide), fun z hz => (hz2 z hz).up (by decide)⟩ ?_
  try simp only [↓x_var, ↓x_cst, ↓x_glob, ↓x_tup, ↓x_lst, ↓x_bin, ↓x_neg, ↓x_not, ↓x_and, ↓x_or, ↓x_cmp, ↓x_isN, ↓x_ite, ↓x_ix, ↓x_sl, ↓x_call, ↓x_call0, ↓x_blt, ↓x_isi, ↓x_lc, ↓x_nil, ↓x_cons, ↓x_and1, ↓x_and2, ↓x_or1, ↓x_or2, ↓x_ioN, ↓x_ioS, ↓x_seq, ↓x_rng1, ↓x_rng2, ↓x_pop, ↓x_disp, ↓x_rev, revX_tup, x_end, ↓x_snil, ↓x_scons, ↓x_set, ↓x_par, ↓x_par3, ↓x_unp, ↓x_six, ↓x_exp, ↓x_app, ↓x_ret, ↓x_retN, ↓x_pass, ↓x_brk, ↓x_cont, ↓x_never, ↓x_if, ↓x_for, ↓x_while, refX_ref, v_get, v_getO, v_getI, v_lst, v_ift, v_iff, v_ifn, v_ifd, v_ife, v_if0, v_ifb, v_newF, v_newT, v_tup, v_add, v_sub, v_mul, v_fdiv, v_mod, v_pow, v_addT, v_addL, v_mulL, v_lt, v_le, v_gt, v_ge, v_eqI, v_neI, v_eqB, v_neB, v_ixT, v_ixL, v_slT, v_slL, v_slS, v_lenT, v_lenL, v_int, v_abs, v_max2, v_min2, v_gcd, v_tupT, v_tupL, v_lstT, v_lstL, v_tg1, v_tg2, v_tg3, t_bl, t_int, t_non, s_tup, s_lst, s_scr, isNon, CV.d, isTys, isTy, List.getElem?_cons_zero, List.getElem?_cons_succ, List.set_cons_zero, List.set_cons_succ, put_same, put_put, wipeE, tgSlots, pureSC, List.length_map, List.length_cons, List.length_nil, Bool.or_false, Bool.or_true, Bool.not_true, Bool.not_false, p_ix, p_six, p_len, p_tup, Ext_r, reduceCtorEq, decide_true, decide_false, decide_eq_true_eq, or_true, true_or, or_false, false_or, and_self, true_and, and_true, false_and, and_false, Bool.false_eq_true, Bool.true_eq_false, false_implies, true_implies, implies_true, not_true_eq_false, not_false_eq_true, startE, List.map_cons, List.map_nil, Nat.reduceAdd, Nat.reduceSub, Nat.reduceMul, List.replicate_succ, List.replicate_zero, List.cons_append, List.nil_append, decide_eq_false_iff_not, List.getElem?_map, Option.map_some, p_isL, p_appX, Bool.false_bne, Bool.true_bne, beq_self_eq_true]
  refine call_pf (xs, m) rfl ⟨show xs.length ≤ 10 from by omega, hx2, show m ≤ 5 from by omega⟩ ?_
  try simp only [↓x_var, ↓x_cst, ↓x_glob, ↓x_tup, ↓x_lst, ↓x_bin, ↓x_neg, ↓x_not, ↓x_and, ↓x_or, ↓x_cmp, ↓x_isN, ↓x_ite, ↓x_ix, ↓x_sl, ↓x_call, ↓x_call0, ↓x_blt, ↓x_isi, ↓x_lc, ↓x_nil, ↓x_cons, ↓x_and1, ↓x_and2, ↓x_or1, ↓x_or2, ↓x_ioN, ↓x_ioS, ↓x_seq, ↓x_rng1, ↓x_rng2, ↓x_pop, ↓x_disp, ↓x_rev, revX_tup, x_end, ↓x_snil, ↓x_scons, ↓x_set, ↓x_par, ↓x_par3, ↓x_unp, ↓x_six, ↓x_exp, ↓x_app, ↓x_ret, ↓x_retN, ↓x_pass, ↓x_brk, ↓x_cont, ↓x_never, ↓x_if, ↓x_for, ↓x_while, refX_ref, v_get, v_getO, v_getI, v_lst, v_ift, v_iff, v_ifn, v_ifd, v_ife, v_if0, v_ifb, v_newF, v_newT, v_tup, v_add, v_sub, v_mul, v_fdiv, v_mod, v_pow, v_addT, v_addL, v_mulL, v_lt, v_le, v_gt, v_ge, v_eqI, v_neI, v_eqB, v_neB, v_ixT, v_ixL, v_slT, v_slL, v_slS, v_lenT, v_lenL, v_int, v_abs, v_max2, v_min2, v_gcd, v_tupT, v_tupL, v_lstT, v_lstL, v_tg1, v_tg2, v_tg3, t_bl, t_int, t_non, s_tup, s_lst, s_scr, isNon, CV.d, isTys, isTy, List.getElem?_cons_zero, List.getElem?_cons_succ, List.set_cons_zero, List.set_cons_succ, put_same, put_put, wipeE, tgSlots, pureSC, List.length_map, List.length_cons, List.length_nil, Bool.or_false, Bool.or_true, Bool.not_true, Bool.not_false, p_ix, p_six, p_len, p_tup, Ext_r, reduceCtorEq, decide_true, decide_false, decide_eq_true_eq, or_true, true_or, or_false, false_or, and_self, true_and, and_true, false_and, and_false, Bool.false_eq_true, Bool.true_eq_false, false_implies, true_implies, implies_true, not_true_eq_false, not_false_eq_true, startE, List.map_cons, List.map_nil, Nat.reduceAdd, Nat.reduceSub, Nat.reduceMul, List.replicate_succ, List.replicate_zero, List.cons_append, List.nil_append, decide_eq_false_iff_not, List.getElem?_map, Option.map_some, p_isL, p_appX, Bool.false_bne, Bool.true_bne, beq_self_eq_true]
  refine call_pf (xs, n) rfl ⟨show xs.length ≤ 500 from by omega, fun z hz => (hx2 z hz).up (by decide), bn.up (by decide)⟩ ?_
  try simp only [↓x_var, ↓x_cst, ↓x_glob, ↓x_tup, ↓x_lst, ↓x_bin, ↓x_neg, ↓x_not, ↓x_and, ↓x_or, ↓x_cmp, ↓x_isN, ↓x_ite, ↓x_ix, ↓x_sl, ↓x_call, ↓x_call0, ↓x_blt, ↓x_isi, ↓x_lc, ↓x_nil, ↓x_cons, ↓x_and1, ↓x_and2, ↓x_or1, ↓x_or2, ↓x_ioN, ↓x_ioS, ↓x_seq, ↓x_rng1, ↓x_rng2, ↓x_pop, ↓x_disp, ↓x_rev, revX_tup, x_end, ↓x_snil, ↓x_scons, ↓x_set, ↓x_par, ↓x_par3, ↓x_unp, ↓x_six, ↓x_exp, ↓x_app, ↓x_ret, ↓x_retN, ↓x_pass, ↓x_brk, ↓x_cont, ↓x_never, ↓x_if, ↓x_for, ↓x_while, refX_ref, v_get, v_getO, v_getI, v_lst, v_ift, v_iff, v_ifn, v_ifd, v_ife, v_if0, v_ifb, v_newF, v_newT, v_tup, v_add, v_sub, v_mul, v_fdiv, v_mod, v_pow, v_addT, v_addL, v_mulL, v_lt, v_le, v_gt, v_ge, v_eqI, v_neI, v_eqB, v_neB, v_ixT, v_ixL, v_slT, v_slL, v_slS, v_lenT, v_lenL, v_int, v_abs, v_max2, v_min2, v_gcd, v_tupT, v_tupL, v_lstT, v_lstL, v_tg1, v_tg2, v_tg3, t_bl, t_int, t_non, s_tup, s_lst, s_scr, isNon, CV.d, isTys, isTy, List.getElem?_cons_zero, List.getElem?_cons_succ, List.set_cons_zero, List.set_cons_succ, put_same, put_put, wipeE, tgSlots, pureSC, List.length_map, List.length_cons, List.length_nil, Bool.or_false, Bool.or_true, Bool.not_true, Bool.not_false, p_ix, p_six, p_len, p_tup, Ext_r, reduceCtorEq, decide_true, decide_false, decide_eq_true_eq, or_true, true_or, or_false, false_or, and_self, true_and, and_true, false_and, and_false, Bool.false_eq_true, Bool.true_eq_false, false_implies, true_implies, implies_true, not_true_eq_false, not_false_eq_true, startE, List.map_cons, List.map_nil, Nat.reduceAdd, Nat.reduceSub, Nat.reduceMul, List.replicate_succ, List.replicate_zero, List.cons_append, List.nil_append, decide_eq_false_iff_not, List.getElem?_map, Option.map_some, p_isL, p_appX, Bool.false_bne, Bool.true_bne, beq_self_eq_true]
  refine call_pf xs rfl ⟨show xs.length ≤ 500 from by omega, fun z hz => (hx2 z hz).up (by decide)⟩ ?_
  try simp only [↓x_var, ↓x_cst, ↓x_glob, ↓x_tup, ↓x_lst, ↓x_bin, ↓x_neg, ↓x_not, ↓x_and, ↓x_or, ↓x_cmp, ↓x_isN, ↓x_ite, ↓x_ix, ↓x_sl, ↓x_call, ↓x_call0, ↓x_blt, ↓x_isi, ↓x_lc, ↓x_nil, ↓x_cons, ↓x_and1, ↓x_and2, ↓x_or1, ↓x_or2, ↓x_ioN, ↓x_ioS, ↓x_seq, ↓x_rng1, ↓x_rng2, ↓x_pop, ↓x_disp, ↓x_rev, revX_tup, x_end, ↓x_snil, ↓x_scons, ↓x_set, ↓x_par, ↓x_par3, ↓x_unp, ↓x_six, ↓x_exp, ↓x_app, ↓x_ret, ↓x_retN, ↓x_pass, ↓x_brk, ↓x_cont, ↓x_never, ↓x_if, ↓x_for, ↓x_while, refX_ref, v_get, v_getO, v_getI, v_lst, v_ift, v_iff, v_ifn, v_ifd, v_ife, v_if0, v_ifb, v_newF, v_newT, v_tup, v_add, v_sub, v_mul, v_fdiv, v_mod, v_pow, v_addT, v_addL, v_mulL, v_lt, v_le, v_gt, v_ge, v_eqI, v_neI, v_eqB, v_neB, v_ixT, v_ixL, v_slT, v_slL, v_slS, v_lenT, v_lenL, v_int, v_abs, v_max2, v_min2, v_gcd, v_tupT, v_tupL, v_lstT, v_lstL, v_tg1, v_tg2, v_tg3, t_bl, t_int, t_non, s_tup, s_lst, s_scr, isNon, CV.d, isTys, isTy, List.getElem?_cons_zero, List.getElem?_cons_succ, List.set_cons_zero, List.set_cons_succ, put_same, put_put, wipeE, tgSlots, pureSC, List.length_map, List.length_cons, List.length_nil, Bool.or_false, Bool.or_true, Bool.not_true, Bool.not_false, p_ix, p_six, p_len, p_tup, Ext_r, reduceCtorEq, decide_true, decide_false, decide_eq_true_eq, or_true, true_or, or_false, false_or, and_self, true_and, and_true, false_and, and_false, Bool.false_eq_true, Bool.true_eq_false, false_implies, true_implies, implies_true, not_true_eq_false, not_false_eq_true, startE, List.map_cons, List.map_nil, Nat.reduceAdd, Nat.reduceSub, Nat.reduceMul, List.replicate_succ, List.replicate_zero, List.cons_append, List.nil_append, decide_eq_false_iff_not, List.getElem?_map, Option.map_some, p_isL, p_appX, Bool.false_bne, Bool.true_bne, beq_self_eq_true]
  refine call_pf xs rfl trivial ?_
  try simp only [↓x_var, ↓x_cst, ↓x_glob, ↓x_tup, ↓x_lst, ↓x_bin, ↓x_neg, ↓x_not, ↓x_and, ↓x_or, ↓x_cmp, ↓x_isN, ↓x_ite, ↓x_ix, ↓x_sl, ↓x_call, ↓x_call0, ↓x_blt, ↓x_isi, ↓x_lc, ↓x_nil, ↓x_cons, ↓x_and1, ↓x_and2, ↓x_or1, ↓x_or2, ↓x_ioN, ↓x_ioS, ↓x_seq, ↓x_rng1, ↓x_rng2, ↓x_pop, ↓x_disp, ↓x_rev, revX_tup, x_end, ↓x_snil, ↓x_scons, ↓x_set, ↓x_par, ↓x_par3, ↓x_unp, ↓x_six, ↓x_exp, ↓x_app, ↓x_ret, ↓x_retN, ↓x_pass, ↓x_brk, ↓x_cont, ↓x_never, ↓x_if, ↓x_for, ↓x_while, refX_ref, v_get, v_getO, v_getI, v_lst, v_ift, v_iff, v_ifn, v_ifd, v_ife, v_if0, v_ifb, v_newF, v_newT, v_tup, v_add, v_sub, v_mul, v_fdiv, v_mod, v_pow, v_addT, v_addL, v_mulL, v_lt, v_le, v_gt, v_ge, v_eqI, v_neI, v_eqB, v_neB, v_ixT, v_ixL, v_slT, v_slL, v_slS, v_lenT, v_lenL, v_int, v_abs, v_max2, v_min2, v_gcd, v_tupT, v_tupL, v_lstT, v_lstL, v_tg1, v_tg2, v_tg3, t_bl, t_int, t_non, s_tup, s_lst, s_scr, isNon, CV.d, isTys, isTy, List.getElem?_cons_zero, List.getElem?_cons_succ, List.set_cons_zero, List.set_cons_succ, put_same, put_put, wipeE, tgSlots, pureSC, List.length_map, List.length_cons, List.length_nil, Bool.or_false, Bool.or_true, Bool.not_true, Bool.not_false, p_ix, p_six, p_len, p_tup, Ext_r, reduceCtorEq, decide_true, decide_false, decide_eq_true_eq, or_true, true_or, or_false, false_or, and_self, true_and, and_true, false_and, and_false, Bool.false_eq_true, Bool.true_eq_false, false_implies, true_implies, implies_true, not_true_eq_false, not_false_eq_true, startE, List.map_cons, List.map_nil, Nat.reduceAdd, Nat.reduceSub, Nat.reduceMul, List.replicate_succ, List.replicate_zero, List.cons_append, List.nil_append, decide_eq_false_iff_not, List.getElem?_map, Option.map_some, p_isL, p_appX, Bool.false_bne, Bool.true_bne, beq_self_eq_true]
  have tl := fun l => trim_len (xs := l)
  have l1 := tl ((List.range (max xs.length zs.length)).map fun k => xs.getD k 0 + zs.getD k 0)
  have l2 := tl ((List.range (max xs.length zs.length)).map fun k => xs.getD k 0 - zs.getD k 0)
  have l3 := tl (prodF xs zs)
  have l4 := (pow_ok (by omega) hx2 m (by omega)).1
  have l5 := tl (xs.map fun x => n * x)
  have l6 := tl ((List.range (xs.length - 1)).map fun k => ((k + 1 : Nat) : Int) * xs.getD (k + 1) 0)
  rw [List.length_map, List.length_range] at l1 l2 l6
  rw [prod_len] at l3
  rw [List.length_map] at l5
  repeat (first | refine And.intro (by decide) ?_ | refine And.intro ?_ (by decide))
  refine call_same (D.lst [tp (addF (max xs.length zs.length) xs zs), tp (subF (max xs.length zs.length) xs zs), tp (trim (prodF xs zs)), tp (powP xs m), tp (trim (xs.map fun x => n * x)), tp (trim ((List.range (xs.length - 1)).map fun k => ((k + 1 : Nat) : Int) * xs.getD (k + 1) 0)), .int (cont xs)]) rfl rfl ?_ ?_
  · refine sm_lst (show 7 ≤ 1000 by decide) fun x hx => ?_
    simp only [List.mem_cons, List.not_mem_nil, or_false] at hx
    rcases hx with rfl | rfl | rfl | rfl | rfl | rfl | rfl
    · exact same_ints (show (trim _).length ≤ _ by omega)
    · exact same_ints (show (trim _).length ≤ _ by omega)
    · exact same_ints (by omega)
    · exact same_ints (by omega)
    · exact same_ints (by omega)
    · exact same_ints (by omega)
    · rfl
  try simp only [↓x_var, ↓x_cst, ↓x_glob, ↓x_tup, ↓x_lst, ↓x_bin, ↓x_neg, ↓x_not, ↓x_and, ↓x_or, ↓x_cmp, ↓x_isN, ↓x_ite, ↓x_ix, ↓x_sl, ↓x_call, ↓x_call0, ↓x_blt, ↓x_isi, ↓x_lc, ↓x_nil, ↓x_cons, ↓x_and1, ↓x_and2, ↓x_or1, ↓x_or2, ↓x_ioN, ↓x_ioS, ↓x_seq, ↓x_rng1, ↓x_rng2, ↓x_pop, ↓x_disp, ↓x_rev, revX_tup, x_end, ↓x_snil, ↓x_scons, ↓x_set, ↓x_par, ↓x_par3, ↓x_unp, ↓x_six, ↓x_exp, ↓x_app, ↓x_ret, ↓x_retN, ↓x_pass, ↓x_brk, ↓x_cont, ↓x_never, ↓x_if, ↓x_for, ↓x_while, refX_ref, v_get, v_getO, v_getI, v_lst, v_ift, v_iff, v_ifn, v_ifd, v_ife, v_if0, v_ifb, v_newF, v_newT, v_tup, v_add, v_sub, v_mul, v_fdiv, v_mod, v_pow, v_addT, v_addL, v_mulL, v_lt, v_le, v_gt, v_ge, v_eqI, v_neI, v_eqB, v_neB, v_ixT, v_ixL, v_slT, v_slL, v_slS, v_lenT, v_lenL, v_int, v_abs, v_max2, v_min2, v_gcd, v_tupT, v_tupL, v_lstT, v_lstL, v_tg1, v_tg2, v_tg3, t_bl, t_int, t_non, s_tup, s_lst, s_scr, isNon, CV.d, isTys, isTy, List.getElem?_cons_zero, List.getElem?_cons_succ, List.set_cons_zero, List.set_cons_succ, put_same, put_put, wipeE, tgSlots, pureSC, List.length_map, List.length_cons, List.length_nil, Bool.or_false, Bool.or_true, Bool.not_true, Bool.not_false, p_ix, p_six, p_len, p_tup, Ext_r, reduceCtorEq, decide_true, decide_false, decide_eq_true_eq, or_true, true_or, or_false, false_or, and_self, true_and, and_true, false_and, and_false, Bool.false_eq_true, Bool.true_eq_false, false_implies, true_implies, implies_true, not_true_eq_false, not_false_eq_true, startE, List.map_cons, List.map_nil, Nat.reduceAdd, Nat.reduceSub, Nat.reduceMul, List.replicate_succ, List.replicate_zero, List.cons_append, List.nil_append, decide_eq_false_iff_not, List.getElem?_map, Option.map_some, p_isL, p_appX, Bool.false_bne, Bool.true_bne, beq_self_eq_true]
  refine ⟨fun h0 => ?_, fun h0 => ?_⟩
  · have h0 : 0 < xs.length := by omega
    have c1 := cont_ne hx3 h0
    have c2 := cont_bit hx3 h0 hx2
    refine call_pf xs rfl ⟨show xs.length ≤ 500 from by omega, c1, c2.up (by decide)⟩ ?_
    try simp only [↓x_var, ↓x_cst, ↓x_glob, ↓x_tup, ↓x_lst, ↓x_bin, ↓x_neg, ↓x_not, ↓x_and, ↓x_or, ↓x_cmp, ↓x_isN, ↓x_ite, ↓x_ix, ↓x_sl, ↓x_call, ↓x_call0, ↓x_blt, ↓x_isi, ↓x_lc, ↓x_nil, ↓x_cons, ↓x_and1, ↓x_and2, ↓x_or1, ↓x_or2, ↓x_ioN, ↓x_ioS, ↓x_seq, ↓x_rng1, ↓x_rng2, ↓x_pop, ↓x_disp, ↓x_rev, revX_tup, x_end, ↓x_snil, ↓x_scons, ↓x_set, ↓x_par, ↓x_par3, ↓x_unp, ↓x_six, ↓x_exp, ↓x_app, ↓x_ret, ↓x_retN, ↓x_pass, ↓x_brk, ↓x_cont, ↓x_never, ↓x_if, ↓x_for, ↓x_while, refX_ref, v_get, v_getO, v_getI, v_lst, v_ift, v_iff, v_ifn, v_ifd, v_ife, v_if0, v_ifb, v_newF, v_newT, v_tup, v_add, v_sub, v_mul, v_fdiv, v_mod, v_pow, v_addT, v_addL, v_mulL, v_lt, v_le, v_gt, v_ge, v_eqI, v_neI, v_eqB, v_neB, v_ixT, v_ixL, v_slT, v_slL, v_slS, v_lenT, v_lenL, v_int, v_abs, v_max2, v_min2, v_gcd, v_tupT, v_tupL, v_lstT, v_lstL, v_tg1, v_tg2, v_tg3, t_bl, t_int, t_non, s_tup, s_lst, s_scr, isNon, CV.d, isTys, isTy, List.getElem?_cons_zero, List.getElem?_cons_succ, List.set_cons_zero, List.set_cons_succ, put_same, put_put, wipeE, tgSlots, pureSC, List.length_map, List.length_cons, List.length_nil, Bool.or_false, Bool.or_true, Bool.not_true, Bool.not_false, p_ix, p_six, p_len, p_tup, Ext_r, reduceCtorEq, decide_true, decide_false, decide_eq_true_eq, or_true, true_or, or_false, false_or, and_self, true_and, and_true, false_and, and_false, Bool.false_eq_true, Bool.true_eq_false, false_implies, true_implies, implies_true, not_true_eq_false, not_false_eq_true, startE, List.map_cons, List.map_nil, Nat.reduceAdd, Nat.reduceSub, Nat.reduceMul, List.replicate_succ, List.replicate_zero, List.cons_append, List.nil_append, decide_eq_false_iff_not, List.getElem?_map, Option.map_some, p_isL, p_appX, Bool.false_bne, Bool.true_bne, beq_self_eq_true]
    refine call_pf (xs, -6) rfl ⟨show xs.length ≤ 500 from by omega, fun z hz => (hx2 z hz).up (by decide), Bit.up (k := 20) (show Bit 20 (-6) from by decide) (by decide)⟩ ?_
    try simp only [↓x_var, ↓x_cst, ↓x_glob, ↓x_tup, ↓x_lst, ↓x_bin, ↓x_neg, ↓x_not, ↓x_and, ↓x_or, ↓x_cmp, ↓x_isN, ↓x_ite, ↓x_ix, ↓x_sl, ↓x_call, ↓x_call0, ↓x_blt, ↓x_isi, ↓x_lc, ↓x_nil, ↓x_cons, ↓x_and1, ↓x_and2, ↓x_or1, ↓x_or2, ↓x_ioN, ↓x_ioS, ↓x_seq, ↓x_rng1, ↓x_rng2, ↓x_pop, ↓x_disp, ↓x_rev, revX_tup, x_end, ↓x_snil, ↓x_scons, ↓x_set, ↓x_par, ↓x_par3, ↓x_unp, ↓x_six, ↓x_exp, ↓x_app, ↓x_ret, ↓x_retN, ↓x_pass, ↓x_brk, ↓x_cont, ↓x_never, ↓x_if, ↓x_for, ↓x_while, refX_ref, v_get, v_getO, v_getI, v_lst, v_ift, v_iff, v_ifn, v_ifd, v_ife, v_if0, v_ifb, v_newF, v_newT, v_tup, v_add, v_sub, v_mul, v_fdiv, v_mod, v_pow, v_addT, v_addL, v_mulL, v_lt, v_le, v_gt, v_ge, v_eqI, v_neI, v_eqB, v_neB, v_ixT, v_ixL, v_slT, v_slL, v_slS, v_lenT, v_lenL, v_int, v_abs, v_max2, v_min2, v_gcd, v_tupT, v_tupL, v_lstT, v_lstL, v_tg1, v_tg2, v_tg3, t_bl, t_int, t_non, s_tup, s_lst, s_scr, isNon, CV.d, isTys, isTy, List.getElem?_cons_zero, List.getElem?_cons_succ, List.set_cons_zero, List.set_cons_succ, put_same, put_put, wipeE, tgSlots, pureSC, List.length_map, List.length_cons, List.length_nil, Bool.or_false, Bool.or_true, Bool.not_true, Bool.not_false, p_ix, p_six, p_len, p_tup, Ext_r, reduceCtorEq, decide_true, decide_false, decide_eq_true_eq, or_true, true_or, or_false, false_or, and_self, true_and, and_true, false_and, and_false, Bool.false_eq_true, Bool.true_eq_false, false_implies, true_implies, implies_true, not_true_eq_false, not_false_eq_true, startE, List.map_cons, List.map_nil, Nat.reduceAdd, Nat.reduceSub, Nat.reduceMul, List.replicate_succ, List.replicate_zero, List.cons_append, List.nil_append, decide_eq_false_iff_not, List.getElem?_map, Option.map_some, p_isL, p_appX, Bool.false_bne, Bool.true_bne, beq_self_eq_true]
    have c3 := cont_neg hx3 h0
    have c4 : Bit 10 (-6) := by decide
    refine call_pf (xs.map (-6 * ·)) rfl ⟨by rw [List.length_map]; omega, by rw [c3]; omega, by rw [c3]; exact (c4.mul c2).up (by decide)⟩ ?_ (by rw [trim_map (by decide), hx3])
    try simp only [↓x_var, ↓x_cst, ↓x_glob, ↓x_tup, ↓x_lst, ↓x_bin, ↓x_neg, ↓x_not, ↓x_and, ↓x_or, ↓x_cmp, ↓x_isN, ↓x_ite, ↓x_ix, ↓x_sl, ↓x_call, ↓x_call0, ↓x_blt, ↓x_isi, ↓x_lc, ↓x_nil, ↓x_cons, ↓x_and1, ↓x_and2, ↓x_or1, ↓x_or2, ↓x_ioN, ↓x_ioS, ↓x_seq, ↓x_rng1, ↓x_rng2, ↓x_pop, ↓x_disp, ↓x_rev, revX_tup, x_end, ↓x_snil, ↓x_scons, ↓x_set, ↓x_par, ↓x_par3, ↓x_unp, ↓x_six, ↓x_exp, ↓x_app, ↓x_ret, ↓x_retN, ↓x_pass, ↓x_brk, ↓x_cont, ↓x_never, ↓x_if, ↓x_for, ↓x_while, refX_ref, v_get, v_getO, v_getI, v_lst, v_ift, v_iff, v_ifn, v_ifd, v_ife, v_if0, v_ifb, v_newF, v_newT, v_tup, v_add, v_sub, v_mul, v_fdiv, v_mod, v_pow, v_addT, v_addL, v_mulL, v_lt, v_le, v_gt, v_ge, v_eqI, v_neI, v_eqB, v_neB, v_ixT, v_ixL, v_slT, v_slL, v_slS, v_lenT, v_lenL, v_int, v_abs, v_max2, v_min2, v_gcd, v_tupT, v_tupL, v_lstT, v_lstL, v_tg1, v_tg2, v_tg3, t_bl, t_int, t_non, s_tup, s_lst, s_scr, isNon, CV.d, isTys, isTy, List.getElem?_cons_zero, List.getElem?_cons_succ, List.set_cons_zero, List.set_cons_succ, put_same, put_put, wipeE, tgSlots, pureSC, List.length_map, List.length_cons, List.length_nil, Bool.or_false, Bool.or_true, Bool.not_true, Bool.not_false, p_ix, p_six, p_len, p_tup, Ext_r, reduceCtorEq, decide_true, decide_false, decide_eq_true_eq, or_true, true_or, or_false, false_or, and_self, true_and, and_true, false_and, and_false, Bool.false_eq_true, Bool.true_eq_false, false_implies, true_implies, implies_true, not_true_eq_false, not_false_eq_true, startE, List.map_cons, List.map_nil, Nat.reduceAdd, Nat.reduceSub, Nat.reduceMul, List.replicate_succ, List.replicate_zero, List.cons_append, List.nil_append, decide_eq_false_iff_not, List.getElem?_map, Option.map_some, p_isL, p_appX, Bool.false_bne, Bool.true_bne, beq_self_eq_true]
    rw [plain_neg hx3 h0]
    repeat (first | refine And.intro (by decide) ?_ | refine And.intro ?_ (by decide))
    refine lc_pure D.int (fun x => .int (x.fdiv (cont xs))) xs rfl (by unfold sizeLine; omega) trivial (fun x hx => ?_) ?_
    · try simp only [↓x_var, ↓x_cst, ↓x_glob, ↓x_tup, ↓x_lst, ↓x_bin, ↓x_neg, ↓x_not, ↓x_and, ↓x_or, ↓x_cmp, ↓x_isN, ↓x_ite, ↓x_ix, ↓x_sl, ↓x_call, ↓x_call0, ↓x_blt, ↓x_isi, ↓x_lc, ↓x_nil, ↓x_cons, ↓x_and1, ↓x_and2, ↓x_or1, ↓x_or2, ↓x_ioN, ↓x_ioS, ↓x_seq, ↓x_rng1, ↓x_rng2, ↓x_pop, ↓x_disp, ↓x_rev, revX_tup, x_end, ↓x_snil, ↓x_scons, ↓x_set, ↓x_par, ↓x_par3, ↓x_unp, ↓x_six, ↓x_exp, ↓x_app, ↓x_ret, ↓x_retN, ↓x_pass, ↓x_brk, ↓x_cont, ↓x_never, ↓x_if, ↓x_for, ↓x_while, refX_ref, v_get, v_getO, v_getI, v_lst, v_ift, v_iff, v_ifn, v_ifd, v_ife, v_if0, v_ifb, v_newF, v_newT, v_tup, v_add, v_sub, v_mul, v_fdiv, v_mod, v_pow, v_addT, v_addL, v_mulL, v_lt, v_le, v_gt, v_ge, v_eqI, v_neI, v_eqB, v_neB, v_ixT, v_ixL, v_slT, v_slL, v_slS, v_lenT, v_lenL, v_int, v_abs, v_max2, v_min2, v_gcd, v_tupT, v_tupL, v_lstT, v_lstL, v_tg1, v_tg2, v_tg3, t_bl, t_int, t_non, s_tup, s_lst, s_scr, isNon, CV.d, isTys, isTy, List.getElem?_cons_zero, List.getElem?_cons_succ, List.set_cons_zero, List.set_cons_succ, put_same, put_put, wipeE, tgSlots, pureSC, List.length_map, List.length_cons, List.length_nil, Bool.or_false, Bool.or_true, Bool.not_true, Bool.not_false, p_ix, p_six, p_len, p_tup, Ext_r, reduceCtorEq, decide_true, decide_false, decide_eq_true_eq, or_true, true_or, or_false, false_or, and_self, true_and, and_true, false_and, and_false, Bool.false_eq_true, Bool.true_eq_false, false_implies, true_implies, implies_true, not_true_eq_false, not_false_eq_true, startE, List.map_cons, List.map_nil, Nat.reduceAdd, Nat.reduceSub, Nat.reduceMul, List.replicate_succ, List.replicate_zero, List.cons_append, List.nil_append, decide_eq_false_iff_not, List.getElem?_map, Option.map_some, p_isL, p_appX, Bool.false_bne, Bool.true_bne, beq_self_eq_true]
      refine call_pf xs rfl trivial ?_
      try simp only [↓x_var, ↓x_cst, ↓x_glob, ↓x_tup, ↓x_lst, ↓x_bin, ↓x_neg, ↓x_not, ↓x_and, ↓x_or, ↓x_cmp, ↓x_isN, ↓x_ite, ↓x_ix, ↓x_sl, ↓x_call, ↓x_call0, ↓x_blt, ↓x_isi, ↓x_lc, ↓x_nil, ↓x_cons, ↓x_and1, ↓x_and2, ↓x_or1, ↓x_or2, ↓x_ioN, ↓x_ioS, ↓x_seq, ↓x_rng1, ↓x_rng2, ↓x_pop, ↓x_disp, ↓x_rev, revX_tup, x_end, ↓x_snil, ↓x_scons, ↓x_set, ↓x_par, ↓x_par3, ↓x_unp, ↓x_six, ↓x_exp, ↓x_app, ↓x_ret, ↓x_retN, ↓x_pass, ↓x_brk, ↓x_cont, ↓x_never, ↓x_if, ↓x_for, ↓x_while, refX_ref, v_get, v_getO, v_getI, v_lst, v_ift, v_iff, v_ifn, v_ifd, v_ife, v_if0, v_ifb, v_newF, v_newT, v_tup, v_add, v_sub, v_mul, v_fdiv, v_mod, v_pow, v_addT, v_addL, v_mulL, v_lt, v_le, v_gt, v_ge, v_eqI, v_neI, v_eqB, v_neB, v_ixT, v_ixL, v_slT, v_slL, v_slS, v_lenT, v_lenL, v_int, v_abs, v_max2, v_min2, v_gcd, v_tupT, v_tupL, v_lstT, v_lstL, v_tg1, v_tg2, v_tg3, t_bl, t_int, t_non, s_tup, s_lst, s_scr, isNon, CV.d, isTys, isTy, List.getElem?_cons_zero, List.getElem?_cons_succ, List.set_cons_zero, List.set_cons_succ, put_same, put_put, wipeE, tgSlots, pureSC, List.length_map, List.length_cons, List.length_nil, Bool.or_false, Bool.or_true, Bool.not_true, Bool.not_false, p_ix, p_six, p_len, p_tup, Ext_r, reduceCtorEq, decide_true, decide_false, decide_eq_true_eq, or_true, true_or, or_false, false_or, and_self, true_and, and_true, false_and, and_false, Bool.false_eq_true, Bool.true_eq_false, false_implies, true_implies, implies_true, not_true_eq_false, not_false_eq_true, startE, List.map_cons, List.map_nil, Nat.reduceAdd, Nat.reduceSub, Nat.reduceMul, List.replicate_succ, List.replicate_zero, List.cons_append, List.nil_append, decide_eq_false_iff_not, List.getElem?_map, Option.map_some, p_isL, p_appX, Bool.false_bne, Bool.true_bne, beq_self_eq_true]
      exact divOk_of c1 c2
    have er : (xs.map fun x => D.int (x.fdiv (cont xs))) = (xs.map (·.fdiv (cont xs))).map D.int := by rw [List.map_map]; rfl
    rw [er]
    try simp only [↓x_var, ↓x_cst, ↓x_glob, ↓x_tup, ↓x_lst, ↓x_bin, ↓x_neg, ↓x_not, ↓x_and, ↓x_or, ↓x_cmp, ↓x_isN, ↓x_ite, ↓x_ix, ↓x_sl, ↓x_call, ↓x_call0, ↓x_blt, ↓x_isi, ↓x_lc, ↓x_nil, ↓x_cons, ↓x_and1, ↓x_and2, ↓x_or1, ↓x_or2, ↓x_ioN, ↓x_ioS, ↓x_seq, ↓x_rng1, ↓x_rng2, ↓x_pop, ↓x_disp, ↓x_rev, revX_tup, x_end, ↓x_snil, ↓x_scons, ↓x_set, ↓x_par, ↓x_par3, ↓x_unp, ↓x_six, ↓x_exp, ↓x_app, ↓x_ret, ↓x_retN, ↓x_pass, ↓x_brk, ↓x_cont, ↓x_never, ↓x_if, ↓x_for, ↓x_while, refX_ref, v_get, v_getO, v_getI, v_lst, v_ift, v_iff, v_ifn, v_ifd, v_ife, v_if0, v_ifb, v_newF, v_newT, v_tup, v_add, v_sub, v_mul, v_fdiv, v_mod, v_pow, v_addT, v_addL, v_mulL, v_lt, v_le, v_gt, v_ge, v_eqI, v_neI, v_eqB, v_neB, v_ixT, v_ixL, v_slT, v_slL, v_slS, v_lenT, v_lenL, v_int, v_abs, v_max2, v_min2, v_gcd, v_tupT, v_tupL, v_lstT, v_lstL, v_tg1, v_tg2, v_tg3, t_bl, t_int, t_non, s_tup, s_lst, s_scr, isNon, CV.d, isTys, isTy, List.getElem?_cons_zero, List.getElem?_cons_succ, List.set_cons_zero, List.set_cons_succ, put_same, put_put, wipeE, tgSlots, pureSC, List.length_map, List.length_cons, List.length_nil, Bool.or_false, Bool.or_true, Bool.not_true, Bool.not_false, p_ix, p_six, p_len, p_tup, Ext_r, reduceCtorEq, decide_true, decide_false, decide_eq_true_eq, or_true, true_or, or_false, false_or, and_self, true_and, and_true, false_and, and_false, Bool.false_eq_true, Bool.true_eq_false, false_implies, true_implies, implies_true, not_true_eq_false, not_false_eq_true, startE, List.map_cons, List.map_nil, Nat.reduceAdd, Nat.reduceSub, Nat.reduceMul, List.replicate_succ, List.replicate_zero, List.cons_append, List.nil_append, decide_eq_false_iff_not, List.getElem?_map, Option.map_some, p_isL, p_appX, Bool.false_bne, Bool.true_bne, beq_self_eq_true]
    repeat (first | refine And.intro (by decide) ?_ | refine And.intro ?_ (by decide))
    refine call_pf (D.lst [tp (xs.map (·.fdiv (cont xs))), tp (xs.map (·.fdiv (cont xs)))]) rfl ?_ ?_
    · refine sm_lst (show 2 ≤ 1000 by decide) fun x hx => ?_
      simp only [List.mem_cons, List.not_mem_nil, or_false] at hx
      rcases hx with rfl | rfl
      · exact same_ints (by rw [List.length_map]; omega)
      · exact same_ints (by rw [List.length_map]; omega)
    try simp only [↓x_var, ↓x_cst, ↓x_glob, ↓x_tup, ↓x_lst, ↓x_bin, ↓x_neg, ↓x_not, ↓x_and, ↓x_or, ↓x_cmp, ↓x_isN, ↓x_ite, ↓x_ix, ↓x_sl, ↓x_call, ↓x_call0, ↓x_blt, ↓x_isi, ↓x_lc, ↓x_nil, ↓x_cons, ↓x_and1, ↓x_and2, ↓x_or1, ↓x_or2, ↓x_ioN, ↓x_ioS, ↓x_seq, ↓x_rng1, ↓x_rng2, ↓x_pop, ↓x_disp, ↓x_rev, revX_tup, x_end, ↓x_snil, ↓x_scons, ↓x_set, ↓x_par, ↓x_par3, ↓x_unp, ↓x_six, ↓x_exp, ↓x_app, ↓x_ret, ↓x_retN, ↓x_pass, ↓x_brk, ↓x_cont, ↓x_never, ↓x_if, ↓x_for, ↓x_while, refX_ref, v_get, v_getO, v_getI, v_lst, v_ift, v_iff, v_ifn, v_ifd, v_ife, v_if0, v_ifb, v_newF, v_newT, v_tup, v_add, v_sub, v_mul, v_fdiv, v_mod, v_pow, v_addT, v_addL, v_mulL, v_lt, v_le, v_gt, v_ge, v_eqI, v_neI, v_eqB, v_neB, v_ixT, v_ixL, v_slT, v_slL, v_slS, v_lenT, v_lenL, v_int, v_abs, v_max2, v_min2, v_gcd, v_tupT, v_tupL, v_lstT, v_lstL, v_tg1, v_tg2, v_tg3, t_bl, t_int, t_non, s_tup, s_lst, s_scr, isNon, CV.d, isTys, isTy, List.getElem?_cons_zero, List.getElem?_cons_succ, List.set_cons_zero, List.set_cons_succ, put_same, put_put, wipeE, tgSlots, pureSC, List.length_map, List.length_cons, List.length_nil, Bool.or_false, Bool.or_true, Bool.not_true, Bool.not_false, p_ix, p_six, p_len, p_tup, Ext_r, reduceCtorEq, decide_true, decide_false, decide_eq_true_eq, or_true, true_or, or_false, false_or, and_self, true_and, and_true, false_and, and_false, Bool.false_eq_true, Bool.true_eq_false, false_implies, true_implies, implies_true, not_true_eq_false, not_false_eq_true, startE, List.map_cons, List.map_nil, Nat.reduceAdd, Nat.reduceSub, Nat.reduceMul, List.replicate_succ, List.replicate_zero, List.cons_append, List.nil_append, decide_eq_false_iff_not, List.getElem?_map, Option.map_some, p_isL, p_appX, Bool.false_bne, Bool.true_bne, beq_self_eq_true]
    have := fun y12 y13 => rest_more (E := E) hC hS2 x2 (some (tp zs)) x5 (some (.int (max xs.length zs.length))) (some (.int n)) (some (.int m)) (some (tp (powP xs m))) y10 x11 y12 y13 x14 x15 x16 x17 x18 x19 xs hx1 hx2
    unfold rest6 rest5 body5 ir_law at this
    try simp only [↓x_var, ↓x_cst, ↓x_glob, ↓x_tup, ↓x_lst, ↓x_bin, ↓x_neg, ↓x_not, ↓x_and, ↓x_or, ↓x_cmp, ↓x_isN, ↓x_ite, ↓x_ix, ↓x_sl, ↓x_call, ↓x_call0, ↓x_blt, ↓x_isi, ↓x_lc, ↓x_nil, ↓x_cons, ↓x_and1, ↓x_and2, ↓x_or1, ↓x_or2, ↓x_ioN, ↓x_ioS, ↓x_seq, ↓x_rng1, ↓x_rng2, ↓x_pop, ↓x_disp, ↓x_rev, revX_tup, x_end, ↓x_snil, ↓x_scons, ↓x_set, ↓x_par, ↓x_par3, ↓x_unp, ↓x_six, ↓x_exp, ↓x_app, ↓x_ret, ↓x_retN, ↓x_pass, ↓x_brk, ↓x_cont, ↓x_never, ↓x_if, ↓x_for, ↓x_while, refX_ref, v_get, v_getO, v_getI, v_lst, v_ift, v_iff, v_ifn, v_ifd, v_ife, v_if0, v_ifb, v_newF, v_newT, v_tup, v_add, v_sub, v_mul, v_fdiv, v_mod, v_pow, v_addT, v_addL, v_mulL, v_lt, v_le, v_gt, v_ge, v_eqI, v_neI, v_eqB, v_neB, v_ixT, v_ixL, v_slT, v_slL, v_slS, v_lenT, v_lenL, v_int, v_abs, v_max2, v_min2, v_gcd, v_tupT, v_tupL, v_lstT, v_lstL, v_tg1, v_tg2, v_tg3, t_bl, t_int, t_non, s_tup, s_lst, s_scr, isNon, CV.d, isTys, isTy, List.getElem?_cons_zero, List.getElem?_cons_succ, List.set_cons_zero, List.set_cons_succ, put_same, put_put, wipeE, tgSlots, pureSC, List.length_map, List.length_cons, List.length_nil, Bool.or_false, Bool.or_true, Bool.not_true, Bool.not_false, p_ix, p_six, p_len, p_tup, Ext_r, reduceCtorEq, decide_true, decide_false, decide_eq_true_eq, or_true, true_or, or_false, false_or, and_self, true_and, and_true, false_and, and_false, Bool.false_eq_true, Bool.true_eq_false, false_implies, true_implies, implies_true, not_true_eq_false, not_false_eq_true, startE, List.map_cons, List.map_nil, Nat.reduceAdd, Nat.reduceSub, Nat.reduceMul, List.replicate_succ, List.replicate_zero, List.cons_append, List.nil_append, decide_eq_false_iff_not, List.getElem?_map, Option.map_some, p_isL, p_appX, Bool.false_bne, Bool.true_bne, beq_self_eq_true] at this
    exact this _ _
  · refine ⟨fun z => absurd z h0, fun _ => ?_⟩
    have := fun y12 y13 => rest_more (E := E) hC hS2 x2 (some (tp zs)) x5 (some (.int (max xs.length zs.length))) (some (.int n)) (some (.int m)) (some (tp (powP xs m))) y10 x11 y12 y13 x14 x15 x16 x17 x18 x19 xs hx1 hx2
    unfold rest6 rest5 body5 ir_law at this
    try simp only [↓x_var, ↓x_cst, ↓x_glob, ↓x_tup, ↓x_lst, ↓x_bin, ↓x_neg, ↓x_not, ↓x_and, ↓x_or, ↓x_cmp, ↓x_isN, ↓x_ite, ↓x_ix, ↓x_sl, ↓x_call, ↓x_call0, ↓x_blt, ↓x_isi, ↓x_lc, ↓x_nil, ↓x_cons, ↓x_and1, ↓x_and2, ↓x_or1, ↓x_or2, ↓x_ioN, ↓x_ioS, ↓x_seq, ↓x_rng1, ↓x_rng2, ↓x_pop, ↓x_disp, ↓x_rev, revX_tup, x_end, ↓x_snil, ↓x_scons, ↓x_set, ↓x_par, ↓x_par3, ↓x_unp, ↓x_six, ↓x_exp, ↓x_app, ↓x_ret, ↓x_retN, ↓x_pass, ↓x_brk, ↓x_cont, ↓x_never, ↓x_if, ↓x_for, ↓x_while, refX_ref, v_get, v_getO, v_getI, v_lst, v_ift, v_iff, v_ifn, v_ifd, v_ife, v_if0, v_ifb, v_newF, v_newT, v_tup, v_add, v_sub, v_mul, v_fdiv, v_mod, v_pow, v_addT, v_addL, v_mulL, v_lt, v_le, v_gt, v_ge, v_eqI, v_neI, v_eqB, v_neB, v_ixT, v_ixL, v_slT, v_slL, v_slS, v_lenT, v_lenL, v_int, v_abs, v_max2, v_min2, v_gcd, v_tupT, v_tupL, v_lstT, v_lstL, v_tg1, v_tg2, v_tg3, t_bl, t_int, t_non, s_tup, s_lst, s_scr, isNon, CV.d, isTys, isTy, List.getElem?_cons_zero, List.getElem?_cons_succ, List.set_cons_zero, List.set_cons_succ, put_same, put_put, wipeE, tgSlots, pureSC, List.length_map, List.length_cons, List.length_nil, Bool.or_false, Bool.or_true, Bool.not_true, Bool.not_false, p_ix, p_six, p_len, p_tup, Ext_r, reduceCtorEq, decide_true, decide_false, decide_eq_true_eq, or_true, true_or, or_false, false_or, and_self, true_and, and_true, false_and, and_false, Bool.false_eq_true, Bool.true_eq_false, false_implies, true_implies, implies_true, not_true_eq_false, not_false_eq_true, startE, List.map_cons, List.map_nil, Nat.reduceAdd, Nat.reduceSub, Nat.reduceMul, List.replicate_succ, List.replicate_zero, List.cons_append, List.nil_append, decide_eq_false_iff_not, List.getElem?_map, Option.map_some, p_isL, p_appX, Bool.false_bne, Bool.true_bne, beq_self_eq_true] at this
    exact this _ _
theorem turn_ok {C : SC} {E : Exn → Mem → Prop} {s : D} {a : Addr} (hC : Fin s a C) {o : MO} (hS : Sta o) (x2 x3 x4 x5 x6 x7 x8 x9 x10 x11 x12 x13 x14 x15 x16 x17 x18 x19 : Option D) :
    seqX ΓL [] body5 C E [some s, some (.ref a), x2, x3, x4, x5, x6, x7, x8, x9, x10, x11, x12, x13, x14, x15, x16, x17, x18, x19] (put M0 a o) := by
  unfold body5 ir_law
  try simp only [↓x_var, ↓x_cst, ↓x_glob, ↓x_tup, ↓x_lst, ↓x_bin, ↓x_neg, ↓x_not, ↓x_and, ↓x_or, ↓x_cmp, ↓x_isN, ↓x_ite, ↓x_ix, ↓x_sl, ↓x_call, ↓x_call0, ↓x_blt, ↓x_isi, ↓x_lc, ↓x_nil, ↓x_cons, ↓x_and1, ↓x_and2, ↓x_or1, ↓x_or2, ↓x_ioN, ↓x_ioS, ↓x_seq, ↓x_rng1, ↓x_rng2, ↓x_pop, ↓x_disp, ↓x_rev, revX_tup, x_end, ↓x_snil, ↓x_scons, ↓x_set, ↓x_par, ↓x_par3, ↓x_unp, ↓x_six, ↓x_exp, ↓x_app, ↓x_ret, ↓x_retN, ↓x_pass, ↓x_brk, ↓x_cont, ↓x_never, ↓x_if, ↓x_for, ↓x_while, refX_ref, v_get, v_getO, v_getI, v_lst, v_ift, v_iff, v_ifn, v_ifd, v_ife, v_if0, v_ifb, v_newF, v_newT, v_tup, v_add, v_sub, v_mul, v_fdiv, v_mod, v_pow, v_addT, v_addL, v_mulL, v_lt, v_le, v_gt, v_ge, v_eqI, v_neI, v_eqB, v_neB, v_ixT, v_ixL, v_slT, v_slL, v_slS, v_lenT, v_lenL, v_int, v_abs, v_max2, v_min2, v_gcd, v_tupT, v_tupL, v_lstT, v_lstL, v_tg1, v_tg2, v_tg3, t_bl, t_int, t_non, s_tup, s_lst, s_scr, isNon, CV.d, isTys, isTy, List.getElem?_cons_zero, List.getElem?_cons_succ, List.set_cons_zero, List.set_cons_succ, put_same, put_put, wipeE, tgSlots, pureSC, List.length_map, List.length_cons, List.length_nil, Bool.or_false, Bool.or_true, Bool.not_true, Bool.not_false, p_ix, p_six, p_len, p_tup, Ext_r, reduceCtorEq, decide_true, decide_false, decide_eq_true_eq, or_true, true_or, or_false, false_or, and_self, true_and, and_true, false_and, and_false, Bool.false_eq_true, Bool.true_eq_false, false_implies, true_implies, implies_true, not_true_eq_false, not_false_eq_true, startE, List.map_cons, List.map_nil, Nat.reduceAdd, Nat.reduceSub, Nat.reduceMul, List.replicate_succ, List.replicate_zero, List.cons_append, List.nil_append, decide_eq_false_iff_not, List.getElem?_map, Option.map_some, p_isL, p_appX, Bool.false_bne, Bool.true_bne, beq_self_eq_true]
  refine call_poly hS fun xs o1 hS1 hx1 hx2 hx3 => ?_
  try simp only [↓x_var, ↓x_cst, ↓x_glob, ↓x_tup, ↓x_lst, ↓x_bin, ↓x_neg, ↓x_not, ↓x_and, ↓x_or, ↓x_cmp, ↓x_isN, ↓x_ite, ↓x_ix, ↓x_sl, ↓x_call, ↓x_call0, ↓x_blt, ↓x_isi, ↓x_lc, ↓x_nil, ↓x_cons, ↓x_and1, ↓x_and2, ↓x_or1, ↓x_or2, ↓x_ioN, ↓x_ioS, ↓x_seq, ↓x_rng1, ↓x_rng2, ↓x_pop, ↓x_disp, ↓x_rev, revX_tup, x_end, ↓x_snil, ↓x_scons, ↓x_set, ↓x_par, ↓x_par3, ↓x_unp, ↓x_six, ↓x_exp, ↓x_app, ↓x_ret, ↓x_retN, ↓x_pass, ↓x_brk, ↓x_cont, ↓x_never, ↓x_if, ↓x_for, ↓x_while, refX_ref, v_get, v_getO, v_getI, v_lst, v_ift, v_iff, v_ifn, v_ifd, v_ife, v_if0, v_ifb, v_newF, v_newT, v_tup, v_add, v_sub, v_mul, v_fdiv, v_mod, v_pow, v_addT, v_addL, v_mulL, v_lt, v_le, v_gt, v_ge, v_eqI, v_neI, v_eqB, v_neB, v_ixT, v_ixL, v_slT, v_slL, v_slS, v_lenT, v_lenL, v_int, v_abs, v_max2, v_min2, v_gcd, v_tupT, v_tupL, v_lstT, v_lstL, v_tg1, v_tg2, v_tg3, t_bl, t_int, t_non, s_tup, s_lst, s_scr, isNon, CV.d, isTys, isTy, List.getElem?_cons_zero, List.getElem?_cons_succ, List.set_cons_zero, List.set_cons_succ, put_same, put_put, wipeE, tgSlots, pureSC, List.length_map, List.length_cons, List.length_nil, Bool.or_false, Bool.or_true, Bool.not_true, Bool.not_false, p_ix, p_six, p_len, p_tup, Ext_r, reduceCtorEq, decide_true, decide_false, decide_eq_true_eq, or_true, true_or, or_false, false_or, and_self, true_and, and_true, false_and, and_false, Bool.false_eq_true, Bool.true_eq_false, false_implies, true_implies, implies_true, not_true_eq_false, not_false_eq_true, startE, List.map_cons, List.map_nil, Nat.reduceAdd, Nat.reduceSub, Nat.reduceMul, List.replicate_succ, List.replicate_zero, List.cons_append, List.nil_append, decide_eq_false_iff_not, List.getElem?_map, Option.map_some, p_isL, p_appX, Bool.false_bne, Bool.true_bne, beq_self_eq_true]
  refine call_poly hS1 fun ys o2 hS2 hy1 hy2 hy3 => ?_
  try simp only [↓x_var, ↓x_cst, ↓x_glob, ↓x_tup, ↓x_lst, ↓x_bin, ↓x_neg, ↓x_not, ↓x_and, ↓x_or, ↓x_cmp, ↓x_isN, ↓x_ite, ↓x_ix, ↓x_sl, ↓x_call, ↓x_call0, ↓x_blt, ↓x_isi, ↓x_lc, ↓x_nil, ↓x_cons, ↓x_and1, ↓x_and2, ↓x_or1, ↓x_or2, ↓x_ioN, ↓x_ioS, ↓x_seq, ↓x_rng1, ↓x_rng2, ↓x_pop, ↓x_disp, ↓x_rev, revX_tup, x_end, ↓x_snil, ↓x_scons, ↓x_set, ↓x_par, ↓x_par3, ↓x_unp, ↓x_six, ↓x_exp, ↓x_app, ↓x_ret, ↓x_retN, ↓x_pass, ↓x_brk, ↓x_cont, ↓x_never, ↓x_if, ↓x_for, ↓x_while, refX_ref, v_get, v_getO, v_getI, v_lst, v_ift, v_iff, v_ifn, v_ifd, v_ife, v_if0, v_ifb, v_newF, v_newT, v_tup, v_add, v_sub, v_mul, v_fdiv, v_mod, v_pow, v_addT, v_addL, v_mulL, v_lt, v_le, v_gt, v_ge, v_eqI, v_neI, v_eqB, v_neB, v_ixT, v_ixL, v_slT, v_slL, v_slS, v_lenT, v_lenL, v_int, v_abs, v_max2, v_min2, v_gcd, v_tupT, v_tupL, v_lstT, v_lstL, v_tg1, v_tg2, v_tg3, t_bl, t_int, t_non, s_tup, s_lst, s_scr, isNon, CV.d, isTys, isTy, List.getElem?_cons_zero, List.getElem?_cons_succ, List.set_cons_zero, List.set_cons_succ, put_same, put_put, wipeE, tgSlots, pureSC, List.length_map, List.length_cons, List.length_nil, Bool.or_false, Bool.or_true, Bool.not_true, Bool.not_false, p_ix, p_six, p_len, p_tup, Ext_r, reduceCtorEq, decide_true, decide_false, decide_eq_true_eq, or_true, true_or, or_false, false_or, and_self, true_and, and_true, false_and, and_false, Bool.false_eq_true, Bool.true_eq_false, false_implies, true_implies, implies_true, not_true_eq_false, not_false_eq_true, startE, List.map_cons, List.map_nil, Nat.reduceAdd, Nat.reduceSub, Nat.reduceMul, List.replicate_succ, List.replicate_zero, List.cons_append, List.nil_append, decide_eq_false_iff_not, List.getElem?_map, Option.map_some, p_isL, p_appX, Bool.false_bne, Bool.true_bne, beq_self_eq_true]
  refine ⟨by decide, ?_⟩
  refine call_next hS2 (by decide) fun r o3 hS3 _ _ => ?_
  try simp only [↓x_var, ↓x_cst, ↓x_glob, ↓x_tup, ↓x_lst, ↓x_bin, ↓x_neg, ↓x_not, ↓x_and, ↓x_or, ↓x_cmp, ↓x_isN, ↓x_ite, ↓x_ix, ↓x_sl, ↓x_call, ↓x_call0, ↓x_blt, ↓x_isi, ↓x_lc, ↓x_nil, ↓x_cons, ↓x_and1, ↓x_and2, ↓x_or1, ↓x_or2, ↓x_ioN, ↓x_ioS, ↓x_seq, ↓x_rng1, ↓x_rng2, ↓x_pop, ↓x_disp, ↓x_rev, revX_tup, x_end, ↓x_snil, ↓x_scons, ↓x_set, ↓x_par, ↓x_par3, ↓x_unp, ↓x_six, ↓x_exp, ↓x_app, ↓x_ret, ↓x_retN, ↓x_pass, ↓x_brk, ↓x_cont, ↓x_never, ↓x_if, ↓x_for, ↓x_while, refX_ref, v_get, v_getO, v_getI, v_lst, v_ift, v_iff, v_ifn, v_ifd, v_ife, v_if0, v_ifb, v_newF, v_newT, v_tup, v_add, v_sub, v_mul, v_fdiv, v_mod, v_pow, v_addT, v_addL, v_mulL, v_lt, v_le, v_gt, v_ge, v_eqI, v_neI, v_eqB, v_neB, v_ixT, v_ixL, v_slT, v_slL, v_slS, v_lenT, v_lenL, v_int, v_abs, v_max2, v_min2, v_gcd, v_tupT, v_tupL, v_lstT, v_lstL, v_tg1, v_tg2, v_tg3, t_bl, t_int, t_non, s_tup, s_lst, s_scr, isNon, CV.d, isTys, isTy, List.getElem?_cons_zero, List.getElem?_cons_succ, List.set_cons_zero, List.set_cons_succ, put_same, put_put, wipeE, tgSlots, pureSC, List.length_map, List.length_cons, List.length_nil, Bool.or_false, Bool.or_true, Bool.not_true, Bool.not_false, p_ix, p_six, p_len, p_tup, Ext_r, reduceCtorEq, decide_true, decide_false, decide_eq_true_eq, or_true, true_or, or_false, false_or, and_self, true_and, and_true, false_and, and_false, Bool.false_eq_true, Bool.true_eq_false, false_implies, true_implies, implies_true, not_true_eq_false, not_false_eq_true, startE, List.map_cons, List.map_nil, Nat.reduceAdd, Nat.reduceSub, Nat.reduceMul, List.replicate_succ, List.replicate_zero, List.cons_append, List.nil_append, decide_eq_false_iff_not, List.getElem?_map, Option.map_some, p_isL, p_appX, Bool.false_bne, Bool.true_bne, beq_self_eq_true]
  refine ⟨fun h => ?_, fun h => ?_⟩
  · refine lc_pure D.int (fun x => .int (-x)) xs rfl (by unfold sizeLine; omega) trivial (fun x hx => ?_) ?_
    · try simp only [↓x_var, ↓x_cst, ↓x_glob, ↓x_tup, ↓x_lst, ↓x_bin, ↓x_neg, ↓x_not, ↓x_and, ↓x_or, ↓x_cmp, ↓x_isN, ↓x_ite, ↓x_ix, ↓x_sl, ↓x_call, ↓x_call0, ↓x_blt, ↓x_isi, ↓x_lc, ↓x_nil, ↓x_cons, ↓x_and1, ↓x_and2, ↓x_or1, ↓x_or2, ↓x_ioN, ↓x_ioS, ↓x_seq, ↓x_rng1, ↓x_rng2, ↓x_pop, ↓x_disp, ↓x_rev, revX_tup, x_end, ↓x_snil, ↓x_scons, ↓x_set, ↓x_par, ↓x_par3, ↓x_unp, ↓x_six, ↓x_exp, ↓x_app, ↓x_ret, ↓x_retN, ↓x_pass, ↓x_brk, ↓x_cont, ↓x_never, ↓x_if, ↓x_for, ↓x_while, refX_ref, v_get, v_getO, v_getI, v_lst, v_ift, v_iff, v_ifn, v_ifd, v_ife, v_if0, v_ifb, v_newF, v_newT, v_tup, v_add, v_sub, v_mul, v_fdiv, v_mod, v_pow, v_addT, v_addL, v_mulL, v_lt, v_le, v_gt, v_ge, v_eqI, v_neI, v_eqB, v_neB, v_ixT, v_ixL, v_slT, v_slL, v_slS, v_lenT, v_lenL, v_int, v_abs, v_max2, v_min2, v_gcd, v_tupT, v_tupL, v_lstT, v_lstL, v_tg1, v_tg2, v_tg3, t_bl, t_int, t_non, s_tup, s_lst, s_scr, isNon, CV.d, isTys, isTy, List.getElem?_cons_zero, List.getElem?_cons_succ, List.set_cons_zero, List.set_cons_succ, put_same, put_put, wipeE, tgSlots, pureSC, List.length_map, List.length_cons, List.length_nil, Bool.or_false, Bool.or_true, Bool.not_true, Bool.not_false, p_ix, p_six, p_len, p_tup, Ext_r, reduceCtorEq, decide_true, decide_false, decide_eq_true_eq, or_true, true_or, or_false, false_or, and_self, true_and, and_true, false_and, and_false, Bool.false_eq_true, Bool.true_eq_false, false_implies, true_implies, implies_true, not_true_eq_false, not_false_eq_true, startE, List.map_cons, List.map_nil, Nat.reduceAdd, Nat.reduceSub, Nat.reduceMul, List.replicate_succ, List.replicate_zero, List.cons_append, List.nil_append, decide_eq_false_iff_not, List.getElem?_map, Option.map_some, p_isL, p_appX, Bool.false_bne, Bool.true_bne, beq_self_eq_true]
    · have e : (xs.map fun x => D.int (-x)) = (xs.map fun x => -x).map D.int := by rw [List.map_map]; rfl
      rw [e]
      try simp only [↓x_var, ↓x_cst, ↓x_glob, ↓x_tup, ↓x_lst, ↓x_bin, ↓x_neg, ↓x_not, ↓x_and, ↓x_or, ↓x_cmp, ↓x_isN, ↓x_ite, ↓x_ix, ↓x_sl, ↓x_call, ↓x_call0, ↓x_blt, ↓x_isi, ↓x_lc, ↓x_nil, ↓x_cons, ↓x_and1, ↓x_and2, ↓x_or1, ↓x_or2, ↓x_ioN, ↓x_ioS, ↓x_seq, ↓x_rng1, ↓x_rng2, ↓x_pop, ↓x_disp, ↓x_rev, revX_tup, x_end, ↓x_snil, ↓x_scons, ↓x_set, ↓x_par, ↓x_par3, ↓x_unp, ↓x_six, ↓x_exp, ↓x_app, ↓x_ret, ↓x_retN, ↓x_pass, ↓x_brk, ↓x_cont, ↓x_never, ↓x_if, ↓x_for, ↓x_while, refX_ref, v_get, v_getO, v_getI, v_lst, v_ift, v_iff, v_ifn, v_ifd, v_ife, v_if0, v_ifb, v_newF, v_newT, v_tup, v_add, v_sub, v_mul, v_fdiv, v_mod, v_pow, v_addT, v_addL, v_mulL, v_lt, v_le, v_gt, v_ge, v_eqI, v_neI, v_eqB, v_neB, v_ixT, v_ixL, v_slT, v_slL, v_slS, v_lenT, v_lenL, v_int, v_abs, v_max2, v_min2, v_gcd, v_tupT, v_tupL, v_lstT, v_lstL, v_tg1, v_tg2, v_tg3, t_bl, t_int, t_non, s_tup, s_lst, s_scr, isNon, CV.d, isTys, isTy, List.getElem?_cons_zero, List.getElem?_cons_succ, List.set_cons_zero, List.set_cons_succ, put_same, put_put, wipeE, tgSlots, pureSC, List.length_map, List.length_cons, List.length_nil, Bool.or_false, Bool.or_true, Bool.not_true, Bool.not_false, p_ix, p_six, p_len, p_tup, Ext_r, reduceCtorEq, decide_true, decide_false, decide_eq_true_eq, or_true, true_or, or_false, false_or, and_self, true_and, and_true, false_and, and_false, Bool.false_eq_true, Bool.true_eq_false, false_implies, true_implies, implies_true, not_true_eq_false, not_false_eq_true, startE, List.map_cons, List.map_nil, Nat.reduceAdd, Nat.reduceSub, Nat.reduceMul, List.replicate_succ, List.replicate_zero, List.cons_append, List.nil_append, decide_eq_false_iff_not, List.getElem?_map, Option.map_some, p_isL, p_appX, Bool.false_bne, Bool.true_bne, beq_self_eq_true]
      have := rest_turn (E := E) hC hS3 x2 x5 x6 x7 x8 x9 x10 x11 x12 x13 x14 x15 x16 x17 x18 x19 xs (xs.map fun x => -x) hx1 hx2 hx3 (by rw [List.length_map]; exact hx1) (fun x hx => by
          obtain ⟨y, hy, rfl⟩ := List.mem_map.mp hx
          exact (hx2 y hy).neg) (by
          have e : (xs.map fun x => -x) = xs.map (-1 * ·) := by congr 1; funext x; omega
          rw [e]
          exact (trim_map (by decide) xs).trans (by rw [hx3]))
      unfold rest5 body5 ir_law at this
      try simp only [↓x_var, ↓x_cst, ↓x_glob, ↓x_tup, ↓x_lst, ↓x_bin, ↓x_neg, ↓x_not, ↓x_and, ↓x_or, ↓x_cmp, ↓x_isN, ↓x_ite, ↓x_ix, ↓x_sl, ↓x_call, ↓x_call0, ↓x_blt, ↓x_isi, ↓x_lc, ↓x_nil, ↓x_cons, ↓x_and1, ↓x_and2, ↓x_or1, ↓x_or2, ↓x_ioN, ↓x_ioS, ↓x_seq, ↓x_rng1, ↓x_rng2, ↓x_pop, ↓x_disp, ↓x_rev, revX_tup, x_end, ↓x_snil, ↓x_scons, ↓x_set, ↓x_par, ↓x_par3, ↓x_unp, ↓x_six, ↓x_exp, ↓x_app, ↓x_ret, ↓x_retN, ↓x_pass, ↓x_brk, ↓x_cont, ↓x_never, ↓x_if, ↓x_for, ↓x_while, refX_ref, v_get, v_getO, v_getI, v_lst, v_ift, v_iff, v_ifn, v_ifd, v_ife, v_if0, v_ifb, v_newF, v_newT, v_tup, v_add, v_sub, v_mul, v_fdiv, v_mod, v_pow, v_addT, v_addL, v_mulL, v_lt, v_le, v_gt, v_ge, v_eqI, v_neI, v_eqB, v_neB, v_ixT, v_ixL, v_slT, v_slL, v_slS, v_lenT, v_lenL, v_int, v_abs, v_max2, v_min2, v_gcd, v_tupT, v_tupL, v_lstT, v_lstL, v_tg1, v_tg2, v_tg3, t_bl, t_int, t_non, s_tup, s_lst, s_scr, isNon, CV.d, isTys, isTy, List.getElem?_cons_zero, List.getElem?_cons_succ, List.set_cons_zero, List.set_cons_succ, put_same, put_put, wipeE, tgSlots, pureSC, List.length_map, List.length_cons, List.length_nil, Bool.or_false, Bool.or_true, Bool.not_true, Bool.not_false, p_ix, p_six, p_len, p_tup, Ext_r, reduceCtorEq, decide_true, decide_false, decide_eq_true_eq, or_true, true_or, or_false, false_or, and_self, true_and, and_true, false_and, and_false, Bool.false_eq_true, Bool.true_eq_false, false_implies, true_implies, implies_true, not_true_eq_false, not_false_eq_true, startE, List.map_cons, List.map_nil, Nat.reduceAdd, Nat.reduceSub, Nat.reduceMul, List.replicate_succ, List.replicate_zero, List.cons_append, List.nil_append, decide_eq_false_iff_not, List.getElem?_map, Option.map_some, p_isL, p_appX, Bool.false_bne, Bool.true_bne, beq_self_eq_true] at this
      exact this
  · have := rest_turn (E := E) hC hS3 x2 x5 x6 x7 x8 x9 x10 x11 x12 x13 x14 x15 x16 x17 x18 x19 xs ys hx1 hx2 hx3 hy1 hy2 hy3
    unfold rest5 body5 ir_law at this
    try simp only [↓x_var, ↓x_cst, ↓x_glob, ↓x_tup, ↓x_lst, ↓x_bin, ↓x_neg, ↓x_not, ↓x_and, ↓x_or, ↓x_cmp, ↓x_isN, ↓x_ite, ↓x_ix, ↓x_sl, ↓x_call, ↓x_call0, ↓x_blt, ↓x_isi, ↓x_lc, ↓x_nil, ↓x_cons, ↓x_and1, ↓x_and2, ↓x_or1, ↓x_or2, ↓x_ioN, ↓x_ioS, ↓x_seq, ↓x_rng1, ↓x_rng2, ↓x_pop, ↓x_disp, ↓x_rev, revX_tup, x_end, ↓x_snil, ↓x_scons, ↓x_set, ↓x_par, ↓x_par3, ↓x_unp, ↓x_six, ↓x_exp, ↓x_app, ↓x_ret, ↓x_retN, ↓x_pass, ↓x_brk, ↓x_cont, ↓x_never, ↓x_if, ↓x_for, ↓x_while, refX_ref, v_get, v_getO, v_getI, v_lst, v_ift, v_iff, v_ifn, v_ifd, v_ife, v_if0, v_ifb, v_newF, v_newT, v_tup, v_add, v_sub, v_mul, v_fdiv, v_mod, v_pow, v_addT, v_addL, v_mulL, v_lt, v_le, v_gt, v_ge, v_eqI, v_neI, v_eqB, v_neB, v_ixT, v_ixL, v_slT, v_slL, v_slS, v_lenT, v_lenL, v_int, v_abs, v_max2, v_min2, v_gcd, v_tupT, v_tupL, v_lstT, v_lstL, v_tg1, v_tg2, v_tg3, t_bl, t_int, t_non, s_tup, s_lst, s_scr, isNon, CV.d, isTys, isTy, List.getElem?_cons_zero, List.getElem?_cons_succ, List.set_cons_zero, List.set_cons_succ, put_same, put_put, wipeE, tgSlots, pureSC, List.length_map, List.length_cons, List.length_nil, Bool.or_false, Bool.or_true, Bool.not_true, Bool.not_false, p_ix, p_six, p_len, p_tup, Ext_r, reduceCtorEq, decide_true, decide_false, decide_eq_true_eq, or_true, true_or, or_false, false_or, and_self, true_and, and_true, false_and, and_false, Bool.false_eq_true, Bool.true_eq_false, false_implies, true_implies, implies_true, not_true_eq_false, not_false_eq_true, startE, List.map_cons, List.map_nil, Nat.reduceAdd, Nat.reduceSub, Nat.reduceMul, List.replicate_succ, List.replicate_zero, List.cons_append, List.nil_append, decide_eq_false_iff_not, List.getElem?_map, Option.map_some, p_isL, p_appX, Bool.false_bne, Bool.true_bne, beq_self_eq_true] at this
    exact this
theorem b_law : BodyOk ΓL [] 20 ir_law spLaw := by
  rintro ds M Q E c cs ⟨ns, rfl, hl, rfl, q⟩
  refine body_any (fun d _ => d = .bl true) ?_ (by rintro d M' rfl; exact Drop.ext c (.bl _) (fun _ _ h => by cases h) q)
  unfold ir_law
  try simp only [↓x_var, ↓x_cst, ↓x_glob, ↓x_tup, ↓x_lst, ↓x_bin, ↓x_neg, ↓x_not, ↓x_and, ↓x_or, ↓x_cmp, ↓x_isN, ↓x_ite, ↓x_ix, ↓x_sl, ↓x_call, ↓x_call0, ↓x_blt, ↓x_isi, ↓x_lc, ↓x_nil, ↓x_cons, ↓x_and1, ↓x_and2, ↓x_or1, ↓x_or2, ↓x_ioN, ↓x_ioS, ↓x_seq, ↓x_rng1, ↓x_rng2, ↓x_pop, ↓x_disp, ↓x_rev, revX_tup, x_end, ↓x_snil, ↓x_scons, ↓x_set, ↓x_par, ↓x_par3, ↓x_unp, ↓x_six, ↓x_exp, ↓x_app, ↓x_ret, ↓x_retN, ↓x_pass, ↓x_brk, ↓x_cont, ↓x_never, ↓x_if, ↓x_for, ↓x_while, refX_ref, v_get, v_getO, v_getI, v_lst, v_ift, v_iff, v_ifn, v_ifd, v_ife, v_if0, v_ifb, v_newF, v_newT, v_tup, v_add, v_sub, v_mul, v_fdiv, v_mod, v_pow, v_addT, v_addL, v_mulL, v_lt, v_le, v_gt, v_ge, v_eqI, v_neI, v_eqB, v_neB, v_ixT, v_ixL, v_slT, v_slL, v_slS, v_lenT, v_lenL, v_int, v_abs, v_max2, v_min2, v_gcd, v_tupT, v_tupL, v_lstT, v_lstL, v_tg1, v_tg2, v_tg3, t_bl, t_int, t_non, s_tup, s_lst, s_scr, isNon, CV.d, isTys, isTy, List.getElem?_cons_zero, List.getElem?_cons_succ, List.set_cons_zero, List.set_cons_succ, put_same, put_put, wipeE, tgSlots, pureSC, List.length_map, List.length_cons, List.length_nil, Bool.or_false, Bool.or_true, Bool.not_true, Bool.not_false, p_ix, p_six, p_len, p_tup, Ext_r, reduceCtorEq, decide_true, decide_false, decide_eq_true_eq, or_true, true_or, or_false, false_or, and_self, true_and, and_true, false_and, and_false, Bool.false_eq_true, Bool.true_eq_false, false_implies, true_implies, implies_true, not_true_eq_false, not_false_eq_true, startE, List.map_cons, List.map_nil, Nat.reduceAdd, Nat.reduceSub, Nat.reduceMul, List.replicate_succ, List.replicate_zero, List.cons_append, List.nil_append, decide_eq_false_iff_not, List.getElem?_map, Option.map_some, p_isL, p_appX, Bool.false_bne, Bool.true_bne, beq_self_eq_true,  cut_take (show (0 : Int) ≤ 24 by decide)]
  refine ⟨⟨?_, ?_⟩, by decide⟩
  · refine ⟨_, rfl, (ns.take 24) ++ [109], ?_, ?_, ?_, fun a o _ hS => ?_⟩
    · unfold li; rw [List.map_append, List.map_take]; rfl
    · rw [List.length_append]; simp
    · rw [List.length_append, List.length_take]; simp; omega
    try simp only [↓x_var, ↓x_cst, ↓x_glob, ↓x_tup, ↓x_lst, ↓x_bin, ↓x_neg, ↓x_not, ↓x_and, ↓x_or, ↓x_cmp, ↓x_isN, ↓x_ite, ↓x_ix, ↓x_sl, ↓x_call, ↓x_call0, ↓x_blt, ↓x_isi, ↓x_lc, ↓x_nil, ↓x_cons, ↓x_and1, ↓x_and2, ↓x_or1, ↓x_or2, ↓x_ioN, ↓x_ioS, ↓x_seq, ↓x_rng1, ↓x_rng2, ↓x_pop, ↓x_disp, ↓x_rev, revX_tup, x_end, ↓x_snil, ↓x_scons, ↓x_set, ↓x_par, ↓x_par3, ↓x_unp, ↓x_six, ↓x_exp, ↓x_app, ↓x_ret, ↓x_retN, ↓x_pass, ↓x_brk, ↓x_cont, ↓x_never, ↓x_if, ↓x_for, ↓x_while, refX_ref, v_get, v_getO, v_getI, v_lst, v_ift, v_iff, v_ifn, v_ifd, v_ife, v_if0, v_ifb, v_newF, v_newT, v_tup, v_add, v_sub, v_mul, v_fdiv, v_mod, v_pow, v_addT, v_addL, v_mulL, v_lt, v_le, v_gt, v_ge, v_eqI, v_neI, v_eqB, v_neB, v_ixT, v_ixL, v_slT, v_slL, v_slS, v_lenT, v_lenL, v_int, v_abs, v_max2, v_min2, v_gcd, v_tupT, v_tupL, v_lstT, v_lstL, v_tg1, v_tg2, v_tg3, t_bl, t_int, t_non, s_tup, s_lst, s_scr, isNon, CV.d, isTys, isTy, List.getElem?_cons_zero, List.getElem?_cons_succ, List.set_cons_zero, List.set_cons_succ, put_same, put_put, wipeE, tgSlots, pureSC, List.length_map, List.length_cons, List.length_nil, Bool.or_false, Bool.or_true, Bool.not_true, Bool.not_false, p_ix, p_six, p_len, p_tup, Ext_r, reduceCtorEq, decide_true, decide_false, decide_eq_true_eq, or_true, true_or, or_false, false_or, and_self, true_and, and_true, false_and, and_false, Bool.false_eq_true, Bool.true_eq_false, false_implies, true_implies, implies_true, not_true_eq_false, not_false_eq_true, startE, List.map_cons, List.map_nil, Nat.reduceAdd, Nat.reduceSub, Nat.reduceMul, List.replicate_succ, List.replicate_zero, List.cons_append, List.nil_append, decide_eq_false_iff_not, List.getElem?_map, Option.map_some, p_isL, p_appX, Bool.false_bne, Bool.true_bne, beq_self_eq_true]
    refine ⟨by decide, ?_⟩
    refine for_list (fun k : Nat => .int k) (List.range 5) (fun done ρ M' => ∃ o x2 x3 x4 x5 x6 x7 x8 x9 x10 x11 x12 x13 x14 x15 x16 x17 x18 x19, Sta o ∧ M' = put M0 a o ∧ ρ = [some (.scr (ns.map D.int)), some (.ref a), x2, x3, x4, x5, x6, x7, x8, x9, x10, x11, x12, x13, x14, x15, x16, x17, x18, x19]) rfl ⟨o, _, _, _, _, _, _, _, _, _, _, _, _, _, _, _, _, _, _, hS, rfl, rfl⟩ ?_ ?_
    · rintro done turn rest ρ M' he ⟨o, x2, x3, x4, x5, x6, x7, x8, x9, x10, x11, x12, x13, x14, x15, x16, x17, x18, x19, hS, rfl, rfl⟩
      refine turn_ok ?_ hS _ _ _ _ _ _ _ _ _ _ _ _ _ _ _ _ _ _
      intro o x2 x3 x4 x5 x6 x7 x8 x9 x10 x11 x12 x13 x14 x15 x16 x17 x18 x19 hS
      exact ⟨trivial, o, x2, x3, x4, x5, x6, x7, x8, x9, x10, x11, x12, x13, x14, x15, x16, x17, x18, x19, hS, rfl, rfl⟩
    · rintro ρ M' ⟨o, x2, x3, x4, x5, x6, x7, x8, x9, x10, x11, x12, x13, x14, x15, x16, x17, x18, x19, hS, rfl, rfl⟩
      try simp only [↓x_var, ↓x_cst, ↓x_glob, ↓x_tup, ↓x_lst, ↓x_bin, ↓x_neg, ↓x_not, ↓x_and, ↓x_or, ↓x_cmp, ↓x_isN, ↓x_ite, ↓x_ix, ↓x_sl, ↓x_call, ↓x_call0, ↓x_blt, ↓x_isi, ↓x_lc, ↓x_nil, ↓x_cons, ↓x_and1, ↓x_and2, ↓x_or1, ↓x_or2, ↓x_ioN, ↓x_ioS, ↓x_seq, ↓x_rng1, ↓x_rng2, ↓x_pop, ↓x_disp, ↓x_rev, revX_tup, x_end, ↓x_snil, ↓x_scons, ↓x_set, ↓x_par, ↓x_par3, ↓x_unp, ↓x_six, ↓x_exp, ↓x_app, ↓x_ret, ↓x_retN, ↓x_pass, ↓x_brk, ↓x_cont, ↓x_never, ↓x_if, ↓x_for, ↓x_while, refX_ref, v_get, v_getO, v_getI, v_lst, v_ift, v_iff, v_ifn, v_ifd, v_ife, v_if0, v_ifb, v_newF, v_newT, v_tup, v_add, v_sub, v_mul, v_fdiv, v_mod, v_pow, v_addT, v_addL, v_mulL, v_lt, v_le, v_gt, v_ge, v_eqI, v_neI, v_eqB, v_neB, v_ixT, v_ixL, v_slT, v_slL, v_slS, v_lenT, v_lenL, v_int, v_abs, v_max2, v_min2, v_gcd, v_tupT, v_tupL, v_lstT, v_lstL, v_tg1, v_tg2, v_tg3, t_bl, t_int, t_non, s_tup, s_lst, s_scr, isNon, CV.d, isTys, isTy, List.getElem?_cons_zero, List.getElem?_cons_succ, List.set_cons_zero, List.set_cons_succ, put_same, put_put, wipeE, tgSlots, pureSC, List.length_map, List.length_cons, List.length_nil, Bool.or_false, Bool.or_true, Bool.not_true, Bool.not_false, p_ix, p_six, p_len, p_tup, Ext_r, reduceCtorEq, decide_true, decide_false, decide_eq_true_eq, or_true, true_or, or_false, false_or, and_self, true_and, and_true, false_and, and_false, Bool.false_eq_true, Bool.true_eq_false, false_implies, true_implies, implies_true, not_true_eq_false, not_false_eq_true, startE, List.map_cons, List.map_nil, Nat.reduceAdd, Nat.reduceSub, Nat.reduceMul, List.replicate_succ, List.replicate_zero, List.cons_append, List.nil_append, decide_eq_false_iff_not, List.getElem?_map, Option.map_some, p_isL, p_appX, Bool.false_bne, Bool.true_bne, beq_self_eq_true]
      refine ⟨by decide, by decide, ?_⟩
      refine call_pf ([1, 1], [1, -1]) rfl ⟨by decide, by decide, bl (by decide) (by decide), bl (by decide) (by decide)⟩ ?_
      try simp only [↓x_var, ↓x_cst, ↓x_glob, ↓x_tup, ↓x_lst, ↓x_bin, ↓x_neg, ↓x_not, ↓x_and, ↓x_or, ↓x_cmp, ↓x_isN, ↓x_ite, ↓x_ix, ↓x_sl, ↓x_call, ↓x_call0, ↓x_blt, ↓x_isi, ↓x_lc, ↓x_nil, ↓x_cons, ↓x_and1, ↓x_and2, ↓x_or1, ↓x_or2, ↓x_ioN, ↓x_ioS, ↓x_seq, ↓x_rng1, ↓x_rng2, ↓x_pop, ↓x_disp, ↓x_rev, revX_tup, x_end, ↓x_snil, ↓x_scons, ↓x_set, ↓x_par, ↓x_par3, ↓x_unp, ↓x_six, ↓x_exp, ↓x_app, ↓x_ret, ↓x_retN, ↓x_pass, ↓x_brk, ↓x_cont, ↓x_never, ↓x_if, ↓x_for, ↓x_while, refX_ref, v_get, v_getO, v_getI, v_lst, v_ift, v_iff, v_ifn, v_ifd, v_ife, v_if0, v_ifb, v_newF, v_newT, v_tup, v_add, v_sub, v_mul, v_fdiv, v_mod, v_pow, v_addT, v_addL, v_mulL, v_lt, v_le, v_gt, v_ge, v_eqI, v_neI, v_eqB, v_neB, v_ixT, v_ixL, v_slT, v_slL, v_slS, v_lenT, v_lenL, v_int, v_abs, v_max2, v_min2, v_gcd, v_tupT, v_tupL, v_lstT, v_lstL, v_tg1, v_tg2, v_tg3, t_bl, t_int, t_non, s_tup, s_lst, s_scr, isNon, CV.d, isTys, isTy, List.getElem?_cons_zero, List.getElem?_cons_succ, List.set_cons_zero, List.set_cons_succ, put_same, put_put, wipeE, tgSlots, pureSC, List.length_map, List.length_cons, List.length_nil, Bool.or_false, Bool.or_true, Bool.not_true, Bool.not_false, p_ix, p_six, p_len, p_tup, Ext_r, reduceCtorEq, decide_true, decide_false, decide_eq_true_eq, or_true, true_or, or_false, false_or, and_self, true_and, and_true, false_and, and_false, Bool.false_eq_true, Bool.true_eq_false, false_implies, true_implies, implies_true, not_true_eq_false, not_false_eq_true, startE, List.map_cons, List.map_nil, Nat.reduceAdd, Nat.reduceSub, Nat.reduceMul, List.replicate_succ, List.replicate_zero, List.cons_append, List.nil_append, decide_eq_false_iff_not, List.getElem?_map, Option.map_some, p_isL, p_appX, Bool.false_bne, Bool.true_bne, beq_self_eq_true]
      repeat (first | refine And.intro (by decide) ?_ | refine And.intro ?_ (by decide))
      refine call_pf [5, 0, 3] rfl (by decide) ?_
      try simp only [↓x_var, ↓x_cst, ↓x_glob, ↓x_tup, ↓x_lst, ↓x_bin, ↓x_neg, ↓x_not, ↓x_and, ↓x_or, ↓x_cmp, ↓x_isN, ↓x_ite, ↓x_ix, ↓x_sl, ↓x_call, ↓x_call0, ↓x_blt, ↓x_isi, ↓x_lc, ↓x_nil, ↓x_cons, ↓x_and1, ↓x_and2, ↓x_or1, ↓x_or2, ↓x_ioN, ↓x_ioS, ↓x_seq, ↓x_rng1, ↓x_rng2, ↓x_pop, ↓x_disp, ↓x_rev, revX_tup, x_end, ↓x_snil, ↓x_scons, ↓x_set, ↓x_par, ↓x_par3, ↓x_unp, ↓x_six, ↓x_exp, ↓x_app, ↓x_ret, ↓x_retN, ↓x_pass, ↓x_brk, ↓x_cont, ↓x_never, ↓x_if, ↓x_for, ↓x_while, refX_ref, v_get, v_getO, v_getI, v_lst, v_ift, v_iff, v_ifn, v_ifd, v_ife, v_if0, v_ifb, v_newF, v_newT, v_tup, v_add, v_sub, v_mul, v_fdiv, v_mod, v_pow, v_addT, v_addL, v_mulL, v_lt, v_le, v_gt, v_ge, v_eqI, v_neI, v_eqB, v_neB, v_ixT, v_ixL, v_slT, v_slL, v_slS, v_lenT, v_lenL, v_int, v_abs, v_max2, v_min2, v_gcd, v_tupT, v_tupL, v_lstT, v_lstL, v_tg1, v_tg2, v_tg3, t_bl, t_int, t_non, s_tup, s_lst, s_scr, isNon, CV.d, isTys, isTy, List.getElem?_cons_zero, List.getElem?_cons_succ, List.set_cons_zero, List.set_cons_succ, put_same, put_put, wipeE, tgSlots, pureSC, List.length_map, List.length_cons, List.length_nil, Bool.or_false, Bool.or_true, Bool.not_true, Bool.not_false, p_ix, p_six, p_len, p_tup, Ext_r, reduceCtorEq, decide_true, decide_false, decide_eq_true_eq, or_true, true_or, or_false, false_or, and_self, true_and, and_true, false_and, and_false, Bool.false_eq_true, Bool.true_eq_false, false_implies, true_implies, implies_true, not_true_eq_false, not_false_eq_true, startE, List.map_cons, List.map_nil, Nat.reduceAdd, Nat.reduceSub, Nat.reduceMul, List.replicate_succ, List.replicate_zero, List.cons_append, List.nil_append, decide_eq_false_iff_not, List.getElem?_map, Option.map_some, p_isL, p_appX, Bool.false_bne, Bool.true_bne, beq_self_eq_true]
      repeat (first | refine And.intro (by decide) ?_ | refine And.intro ?_ (by decide))
      refine call_pf [4, -6] rfl trivial ?_
      try simp only [↓x_var, ↓x_cst, ↓x_glob, ↓x_tup, ↓x_lst, ↓x_bin, ↓x_neg, ↓x_not, ↓x_and, ↓x_or, ↓x_cmp, ↓x_isN, ↓x_ite, ↓x_ix, ↓x_sl, ↓x_call, ↓x_call0, ↓x_blt, ↓x_isi, ↓x_lc, ↓x_nil, ↓x_cons, ↓x_and1, ↓x_and2, ↓x_or1, ↓x_or2, ↓x_ioN, ↓x_ioS, ↓x_seq, ↓x_rng1, ↓x_rng2, ↓x_pop, ↓x_disp, ↓x_rev, revX_tup, x_end, ↓x_snil, ↓x_scons, ↓x_set, ↓x_par, ↓x_par3, ↓x_unp, ↓x_six, ↓x_exp, ↓x_app, ↓x_ret, ↓x_retN, ↓x_pass, ↓x_brk, ↓x_cont, ↓x_never, ↓x_if, ↓x_for, ↓x_while, refX_ref, v_get, v_getO, v_getI, v_lst, v_ift, v_iff, v_ifn, v_ifd, v_ife, v_if0, v_ifb, v_newF, v_newT, v_tup, v_add, v_sub, v_mul, v_fdiv, v_mod, v_pow, v_addT, v_addL, v_mulL, v_lt, v_le, v_gt, v_ge, v_eqI, v_neI, v_eqB, v_neB, v_ixT, v_ixL, v_slT, v_slL, v_slS, v_lenT, v_lenL, v_int, v_abs, v_max2, v_min2, v_gcd, v_tupT, v_tupL, v_lstT, v_lstL, v_tg1, v_tg2, v_tg3, t_bl, t_int, t_non, s_tup, s_lst, s_scr, isNon, CV.d, isTys, isTy, List.getElem?_cons_zero, List.getElem?_cons_succ, List.set_cons_zero, List.set_cons_succ, put_same, put_put, wipeE, tgSlots, pureSC, List.length_map, List.length_cons, List.length_nil, Bool.or_false, Bool.or_true, Bool.not_true, Bool.not_false, p_ix, p_six, p_len, p_tup, Ext_r, reduceCtorEq, decide_true, decide_false, decide_eq_true_eq, or_true, true_or, or_false, false_or, and_self, true_and, and_true, false_and, and_false, Bool.false_eq_true, Bool.true_eq_false, false_implies, true_implies, implies_true, not_true_eq_false, not_false_eq_true, startE, List.map_cons, List.map_nil, Nat.reduceAdd, Nat.reduceSub, Nat.reduceMul, List.replicate_succ, List.replicate_zero, List.cons_append, List.nil_append, decide_eq_false_iff_not, List.getElem?_map, Option.map_some, p_isL, p_appX, Bool.false_bne, Bool.true_bne, beq_self_eq_true]
      repeat (first | refine And.intro (by decide) ?_ | refine And.intro ?_ (by decide))
      refine call_pf [4, -6] rfl (by decide) ?_
      try simp only [↓x_var, ↓x_cst, ↓x_glob, ↓x_tup, ↓x_lst, ↓x_bin, ↓x_neg, ↓x_not, ↓x_and, ↓x_or, ↓x_cmp, ↓x_isN, ↓x_ite, ↓x_ix, ↓x_sl, ↓x_call, ↓x_call0, ↓x_blt, ↓x_isi, ↓x_lc, ↓x_nil, ↓x_cons, ↓x_and1, ↓x_and2, ↓x_or1, ↓x_or2, ↓x_ioN, ↓x_ioS, ↓x_seq, ↓x_rng1, ↓x_rng2, ↓x_pop, ↓x_disp, ↓x_rev, revX_tup, x_end, ↓x_snil, ↓x_scons, ↓x_set, ↓x_par, ↓x_par3, ↓x_unp, ↓x_six, ↓x_exp, ↓x_app, ↓x_ret, ↓x_retN, ↓x_pass, ↓x_brk, ↓x_cont, ↓x_never, ↓x_if, ↓x_for, ↓x_while, refX_ref, v_get, v_getO, v_getI, v_lst, v_ift, v_iff, v_ifn, v_ifd, v_ife, v_if0, v_ifb, v_newF, v_newT, v_tup, v_add, v_sub, v_mul, v_fdiv, v_mod, v_pow, v_addT, v_addL, v_mulL, v_lt, v_le, v_gt, v_ge, v_eqI, v_neI, v_eqB, v_neB, v_ixT, v_ixL, v_slT, v_slL, v_slS, v_lenT, v_lenL, v_int, v_abs, v_max2, v_min2, v_gcd, v_tupT, v_tupL, v_lstT, v_lstL, v_tg1, v_tg2, v_tg3, t_bl, t_int, t_non, s_tup, s_lst, s_scr, isNon, CV.d, isTys, isTy, List.getElem?_cons_zero, List.getElem?_cons_succ, List.set_cons_zero, List.set_cons_succ, put_same, put_put, wipeE, tgSlots, pureSC, List.length_map, List.length_cons, List.length_nil, Bool.or_false, Bool.or_true, Bool.not_true, Bool.not_false, p_ix, p_six, p_len, p_tup, Ext_r, reduceCtorEq, decide_true, decide_false, decide_eq_true_eq, or_true, true_or, or_false, false_or, and_self, true_and, and_true, false_and, and_false, Bool.false_eq_true, Bool.true_eq_false, false_implies, true_implies, implies_true, not_true_eq_false, not_false_eq_true, startE, List.map_cons, List.map_nil, Nat.reduceAdd, Nat.reduceSub, Nat.reduceMul, List.replicate_succ, List.replicate_zero, List.cons_append, List.nil_append, decide_eq_false_iff_not, List.getElem?_map, Option.map_some, p_isL, p_appX, Bool.false_bne, Bool.true_bne, beq_self_eq_true]
      repeat (first | refine And.intro (by decide) ?_ | refine And.intro ?_ (by decide))
      refine call_pf ([1, -4, 2], 1, 4) rfl (by decide) ?_
      try simp only [↓x_var, ↓x_cst, ↓x_glob, ↓x_tup, ↓x_lst, ↓x_bin, ↓x_neg, ↓x_not, ↓x_and, ↓x_or, ↓x_cmp, ↓x_isN, ↓x_ite, ↓x_ix, ↓x_sl, ↓x_call, ↓x_call0, ↓x_blt, ↓x_isi, ↓x_lc, ↓x_nil, ↓x_cons, ↓x_and1, ↓x_and2, ↓x_or1, ↓x_or2, ↓x_ioN, ↓x_ioS, ↓x_seq, ↓x_rng1, ↓x_rng2, ↓x_pop, ↓x_disp, ↓x_rev, revX_tup, x_end, ↓x_snil, ↓x_scons, ↓x_set, ↓x_par, ↓x_par3, ↓x_unp, ↓x_six, ↓x_exp, ↓x_app, ↓x_ret, ↓x_retN, ↓x_pass, ↓x_brk, ↓x_cont, ↓x_never, ↓x_if, ↓x_for, ↓x_while, refX_ref, v_get, v_getO, v_getI, v_lst, v_ift, v_iff, v_ifn, v_ifd, v_ife, v_if0, v_ifb, v_newF, v_newT, v_tup, v_add, v_sub, v_mul, v_fdiv, v_mod, v_pow, v_addT, v_addL, v_mulL, v_lt, v_le, v_gt, v_ge, v_eqI, v_neI, v_eqB, v_neB, v_ixT, v_ixL, v_slT, v_slL, v_slS, v_lenT, v_lenL, v_int, v_abs, v_max2, v_min2, v_gcd, v_tupT, v_tupL, v_lstT, v_lstL, v_tg1, v_tg2, v_tg3, t_bl, t_int, t_non, s_tup, s_lst, s_scr, isNon, CV.d, isTys, isTy, List.getElem?_cons_zero, List.getElem?_cons_succ, List.set_cons_zero, List.set_cons_succ, put_same, put_put, wipeE, tgSlots, pureSC, List.length_map, List.length_cons, List.length_nil, Bool.or_false, Bool.or_true, Bool.not_true, Bool.not_false, p_ix, p_six, p_len, p_tup, Ext_r, reduceCtorEq, decide_true, decide_false, decide_eq_true_eq, or_true, true_or, or_false, false_or, and_self, true_and, and_true, false_and, and_false, Bool.false_eq_true, Bool.true_eq_false, false_implies, true_implies, implies_true, not_true_eq_false, not_false_eq_true, startE, List.map_cons, List.map_nil, Nat.reduceAdd, Nat.reduceSub, Nat.reduceMul, List.replicate_succ, List.replicate_zero, List.cons_append, List.nil_append, decide_eq_false_iff_not, List.getElem?_map, Option.map_some, p_isL, p_appX, Bool.false_bne, Bool.true_bne, beq_self_eq_true]
      repeat (first | refine And.intro (by decide) ?_ | refine And.intro ?_ (by decide))
      refine call_pf ([], 1, 2) rfl (by decide) ?_
      try simp only [↓x_var, ↓x_cst, ↓x_glob, ↓x_tup, ↓x_lst, ↓x_bin, ↓x_neg, ↓x_not, ↓x_and, ↓x_or, ↓x_cmp, ↓x_isN, ↓x_ite, ↓x_ix, ↓x_sl, ↓x_call, ↓x_call0, ↓x_blt, ↓x_isi, ↓x_lc, ↓x_nil, ↓x_cons, ↓x_and1, ↓x_and2, ↓x_or1, ↓x_or2, ↓x_ioN, ↓x_ioS, ↓x_seq, ↓x_rng1, ↓x_rng2, ↓x_pop, ↓x_disp, ↓x_rev, revX_tup, x_end, ↓x_snil, ↓x_scons, ↓x_set, ↓x_par, ↓x_par3, ↓x_unp, ↓x_six, ↓x_exp, ↓x_app, ↓x_ret, ↓x_retN, ↓x_pass, ↓x_brk, ↓x_cont, ↓x_never, ↓x_if, ↓x_for, ↓x_while, refX_ref, v_get, v_getO, v_getI, v_lst, v_ift, v_iff, v_ifn, v_ifd, v_ife, v_if0, v_ifb, v_newF, v_newT, v_tup, v_add, v_sub, v_mul, v_fdiv, v_mod, v_pow, v_addT, v_addL, v_mulL, v_lt, v_le, v_gt, v_ge, v_eqI, v_neI, v_eqB, v_neB, v_ixT, v_ixL, v_slT, v_slL, v_slS, v_lenT, v_lenL, v_int, v_abs, v_max2, v_min2, v_gcd, v_tupT, v_tupL, v_lstT, v_lstL, v_tg1, v_tg2, v_tg3, t_bl, t_int, t_non, s_tup, s_lst, s_scr, isNon, CV.d, isTys, isTy, List.getElem?_cons_zero, List.getElem?_cons_succ, List.set_cons_zero, List.set_cons_succ, put_same, put_put, wipeE, tgSlots, pureSC, List.length_map, List.length_cons, List.length_nil, Bool.or_false, Bool.or_true, Bool.not_true, Bool.not_false, p_ix, p_six, p_len, p_tup, Ext_r, reduceCtorEq, decide_true, decide_false, decide_eq_true_eq, or_true, true_or, or_false, false_or, and_self, true_and, and_true, false_and, and_false, Bool.false_eq_true, Bool.true_eq_false, false_implies, true_implies, implies_true, not_true_eq_false, not_false_eq_true, startE, List.map_cons, List.map_nil, Nat.reduceAdd, Nat.reduceSub, Nat.reduceMul, List.replicate_succ, List.replicate_zero, List.cons_append, List.nil_append, decide_eq_false_iff_not, List.getElem?_map, Option.map_some, p_isL, p_appX, Bool.false_bne, Bool.true_bne, beq_self_eq_true]
      repeat (first | refine And.intro (by decide) ?_ | refine And.intro ?_ (by decide))
      refine call_pf ([], 0) rfl (by decide) ?_
      try simp only [↓x_var, ↓x_cst, ↓x_glob, ↓x_tup, ↓x_lst, ↓x_bin, ↓x_neg, ↓x_not, ↓x_and, ↓x_or, ↓x_cmp, ↓x_isN, ↓x_ite, ↓x_ix, ↓x_sl, ↓x_call, ↓x_call0, ↓x_blt, ↓x_isi, ↓x_lc, ↓x_nil, ↓x_cons, ↓x_and1, ↓x_and2, ↓x_or1, ↓x_or2, ↓x_ioN, ↓x_ioS, ↓x_seq, ↓x_rng1, ↓x_rng2, ↓x_pop, ↓x_disp, ↓x_rev, revX_tup, x_end, ↓x_snil, ↓x_scons, ↓x_set, ↓x_par, ↓x_par3, ↓x_unp, ↓x_six, ↓x_exp, ↓x_app, ↓x_ret, ↓x_retN, ↓x_pass, ↓x_brk, ↓x_cont, ↓x_never, ↓x_if, ↓x_for, ↓x_while, refX_ref, v_get, v_getO, v_getI, v_lst, v_ift, v_iff, v_ifn, v_ifd, v_ife, v_if0, v_ifb, v_newF, v_newT, v_tup, v_add, v_sub, v_mul, v_fdiv, v_mod, v_pow, v_addT, v_addL, v_mulL, v_lt, v_le, v_gt, v_ge, v_eqI, v_neI, v_eqB, v_neB, v_ixT, v_ixL, v_slT, v_slL, v_slS, v_lenT, v_lenL, v_int, v_abs, v_max2, v_min2, v_gcd, v_tupT, v_tupL, v_lstT, v_lstL, v_tg1, v_tg2, v_tg3, t_bl, t_int, t_non, s_tup, s_lst, s_scr, isNon, CV.d, isTys, isTy, List.getElem?_cons_zero, List.getElem?_cons_succ, List.set_cons_zero, List.set_cons_succ, put_same, put_put, wipeE, tgSlots, pureSC, List.length_map, List.length_cons, List.length_nil, Bool.or_false, Bool.or_true, Bool.not_true, Bool.not_false, p_ix, p_six, p_len, p_tup, Ext_r, reduceCtorEq, decide_true, decide_false, decide_eq_true_eq, or_true, true_or, or_false, false_or, and_self, true_and, and_true, false_and, and_false, Bool.false_eq_true, Bool.true_eq_false, false_implies, true_implies, implies_true, not_true_eq_false, not_false_eq_true, startE, List.map_cons, List.map_nil, Nat.reduceAdd, Nat.reduceSub, Nat.reduceMul, List.replicate_succ, List.replicate_zero, List.cons_append, List.nil_append, decide_eq_false_iff_not, List.getElem?_map, Option.map_some, p_isL, p_appX, Bool.false_bne, Bool.true_bne, beq_self_eq_true]
      repeat (first | refine And.intro (by decide) ?_ | refine And.intro ?_ (by decide))
      refine call_pf ([1, 2], [1, 2]) rfl ⟨by decide, by decide, bl (by decide) (by decide), by decide⟩ ?_
      try simp only [↓x_var, ↓x_cst, ↓x_glob, ↓x_tup, ↓x_lst, ↓x_bin, ↓x_neg, ↓x_not, ↓x_and, ↓x_or, ↓x_cmp, ↓x_isN, ↓x_ite, ↓x_ix, ↓x_sl, ↓x_call, ↓x_call0, ↓x_blt, ↓x_isi, ↓x_lc, ↓x_nil, ↓x_cons, ↓x_and1, ↓x_and2, ↓x_or1, ↓x_or2, ↓x_ioN, ↓x_ioS, ↓x_seq, ↓x_rng1, ↓x_rng2, ↓x_pop, ↓x_disp, ↓x_rev, revX_tup, x_end, ↓x_snil, ↓x_scons, ↓x_set, ↓x_par, ↓x_par3, ↓x_unp, ↓x_six, ↓x_exp, ↓x_app, ↓x_ret, ↓x_retN, ↓x_pass, ↓x_brk, ↓x_cont, ↓x_never, ↓x_if, ↓x_for, ↓x_while, refX_ref, v_get, v_getO, v_getI, v_lst, v_ift, v_iff, v_ifn, v_ifd, v_ife, v_if0, v_ifb, v_newF, v_newT, v_tup, v_add, v_sub, v_mul, v_fdiv, v_mod, v_pow, v_addT, v_addL, v_mulL, v_lt, v_le, v_gt, v_ge, v_eqI, v_neI, v_eqB, v_neB, v_ixT, v_ixL, v_slT, v_slL, v_slS, v_lenT, v_lenL, v_int, v_abs, v_max2, v_min2, v_gcd, v_tupT, v_tupL, v_lstT, v_lstL, v_tg1, v_tg2, v_tg3, t_bl, t_int, t_non, s_tup, s_lst, s_scr, isNon, CV.d, isTys, isTy, List.getElem?_cons_zero, List.getElem?_cons_succ, List.set_cons_zero, List.set_cons_succ, put_same, put_put, wipeE, tgSlots, pureSC, List.length_map, List.length_cons, List.length_nil, Bool.or_false, Bool.or_true, Bool.not_true, Bool.not_false, p_ix, p_six, p_len, p_tup, Ext_r, reduceCtorEq, decide_true, decide_false, decide_eq_true_eq, or_true, true_or, or_false, false_or, and_self, true_and, and_true, false_and, and_false, Bool.false_eq_true, Bool.true_eq_false, false_implies, true_implies, implies_true, not_true_eq_false, not_false_eq_true, startE, List.map_cons, List.map_nil, Nat.reduceAdd, Nat.reduceSub, Nat.reduceMul, List.replicate_succ, List.replicate_zero, List.cons_append, List.nil_append, decide_eq_false_iff_not, List.getElem?_map, Option.map_some, p_isL, p_appX, Bool.false_bne, Bool.true_bne, beq_self_eq_true]
      repeat (first | refine And.intro (by decide) ?_ | refine And.intro ?_ (by decide))
      refine call_pf [] rfl trivial ?_
      try simp only [↓x_var, ↓x_cst, ↓x_glob, ↓x_tup, ↓x_lst, ↓x_bin, ↓x_neg, ↓x_not, ↓x_and, ↓x_or, ↓x_cmp, ↓x_isN, ↓x_ite, ↓x_ix, ↓x_sl, ↓x_call, ↓x_call0, ↓x_blt, ↓x_isi, ↓x_lc, ↓x_nil, ↓x_cons, ↓x_and1, ↓x_and2, ↓x_or1, ↓x_or2, ↓x_ioN, ↓x_ioS, ↓x_seq, ↓x_rng1, ↓x_rng2, ↓x_pop, ↓x_disp, ↓x_rev, revX_tup, x_end, ↓x_snil, ↓x_scons, ↓x_set, ↓x_par, ↓x_par3, ↓x_unp, ↓x_six, ↓x_exp, ↓x_app, ↓x_ret, ↓x_retN, ↓x_pass, ↓x_brk, ↓x_cont, ↓x_never, ↓x_if, ↓x_for, ↓x_while, refX_ref, v_get, v_getO, v_getI, v_lst, v_ift, v_iff, v_ifn, v_ifd, v_ife, v_if0, v_ifb, v_newF, v_newT, v_tup, v_add, v_sub, v_mul, v_fdiv, v_mod, v_pow, v_addT, v_addL, v_mulL, v_lt, v_le, v_gt, v_ge, v_eqI, v_neI, v_eqB, v_neB, v_ixT, v_ixL, v_slT, v_slL, v_slS, v_lenT, v_lenL, v_int, v_abs, v_max2, v_min2, v_gcd, v_tupT, v_tupL, v_lstT, v_lstL, v_tg1, v_tg2, v_tg3, t_bl, t_int, t_non, s_tup, s_lst, s_scr, isNon, CV.d, isTys, isTy, List.getElem?_cons_zero, List.getElem?_cons_succ, List.set_cons_zero, List.set_cons_succ, put_same, put_put, wipeE, tgSlots, pureSC, List.length_map, List.length_cons, List.length_nil, Bool.or_false, Bool.or_true, Bool.not_true, Bool.not_false, p_ix, p_six, p_len, p_tup, Ext_r, reduceCtorEq, decide_true, decide_false, decide_eq_true_eq, or_true, true_or, or_false, false_or, and_self, true_and, and_true, false_and, and_false, Bool.false_eq_true, Bool.true_eq_false, false_implies, true_implies, implies_true, not_true_eq_false, not_false_eq_true, startE, List.map_cons, List.map_nil, Nat.reduceAdd, Nat.reduceSub, Nat.reduceMul, List.replicate_succ, List.replicate_zero, List.cons_append, List.nil_append, decide_eq_false_iff_not, List.getElem?_map, Option.map_some, p_isL, p_appX, Bool.false_bne, Bool.true_bne, beq_self_eq_true]
      repeat (first | refine And.intro (by decide) ?_ | refine And.intro ?_ (by decide))
      refine call_pf (D.lst [tp [1, 0, -1], tp [0, 6], .int (-2), tp [-2, 3], .tup [.int 1, .int 8], .tup [.int 0, .int 1], tp [1], tp [], .int 0]) rfl (by decide) ?_ (by rfl)
      try simp only [↓x_var, ↓x_cst, ↓x_glob, ↓x_tup, ↓x_lst, ↓x_bin, ↓x_neg, ↓x_not, ↓x_and, ↓x_or, ↓x_cmp, ↓x_isN, ↓x_ite, ↓x_ix, ↓x_sl, ↓x_call, ↓x_call0, ↓x_blt, ↓x_isi, ↓x_lc, ↓x_nil, ↓x_cons, ↓x_and1, ↓x_and2, ↓x_or1, ↓x_or2, ↓x_ioN, ↓x_ioS, ↓x_seq, ↓x_rng1, ↓x_rng2, ↓x_pop, ↓x_disp, ↓x_rev, revX_tup, x_end, ↓x_snil, ↓x_scons, ↓x_set, ↓x_par, ↓x_par3, ↓x_unp, ↓x_six, ↓x_exp, ↓x_app, ↓x_ret, ↓x_retN, ↓x_pass, ↓x_brk, ↓x_cont, ↓x_never, ↓x_if, ↓x_for, ↓x_while, refX_ref, v_get, v_getO, v_getI, v_lst, v_ift, v_iff, v_ifn, v_ifd, v_ife, v_if0, v_ifb, v_newF, v_newT, v_tup, v_add, v_sub, v_mul, v_fdiv, v_mod, v_pow, v_addT, v_addL, v_mulL, v_lt, v_le, v_gt, v_ge, v_eqI, v_neI, v_eqB, v_neB, v_ixT, v_ixL, v_slT, v_slL, v_slS, v_lenT, v_lenL, v_int, v_abs, v_max2, v_min2, v_gcd, v_tupT, v_tupL, v_lstT, v_lstL, v_tg1, v_tg2, v_tg3, t_bl, t_int, t_non, s_tup, s_lst, s_scr, isNon, CV.d, isTys, isTy, List.getElem?_cons_zero, List.getElem?_cons_succ, List.set_cons_zero, List.set_cons_succ, put_same, put_put, wipeE, tgSlots, pureSC, List.length_map, List.length_cons, List.length_nil, Bool.or_false, Bool.or_true, Bool.not_true, Bool.not_false, p_ix, p_six, p_len, p_tup, Ext_r, reduceCtorEq, decide_true, decide_false, decide_eq_true_eq, or_true, true_or, or_false, false_or, and_self, true_and, and_true, false_and, and_false, Bool.false_eq_true, Bool.true_eq_false, false_implies, true_implies, implies_true, not_true_eq_false, not_false_eq_true, startE, List.map_cons, List.map_nil, Nat.reduceAdd, Nat.reduceSub, Nat.reduceMul, List.replicate_succ, List.replicate_zero, List.cons_append, List.nil_append, decide_eq_false_iff_not, List.getElem?_map, Option.map_some, p_isL, p_appX, Bool.false_bne, Bool.true_bne, beq_self_eq_true,  anySC]
  · rw [List.length_take, List.length_map]; unfold sizeLine; omega
end DL
set_option Elab.async false
set_option linter.all false
set_option maxRecDepth 100000
set_option maxHeartbeats 0
namespace DL
open PySem PySem.Spec PyProof.Rows L2
abbrev rw := PySem.Challenge.rw_throwsagree_k27_whole_polynomials_of_who
def fn : List He.DefD := [ddOf "is_whole" (top 5), ddOf "divisor" (top 6), ddOf "ratio" (top 7), ddOf "whole_power" (top 8), ddOf "is_poly" (top 10), ddOf "trimmed" (top 11), ddOf "at_number" (top 12), ddOf "poly_added" (top 13), ddOf "poly_scaled" (top 14), ddOf "poly_taken" (top 15), ddOf "poly_times" (top 16), ddOf "poly_raised" (top 17), ddOf "slope" (top 18), ddOf "content" (top 19), ddOf "plain_part" (top 20), ddOf "poly_at" (top 21), ddOf "_law_draws" (top 23), ddOf "_law_next" (top 24), ddOf "_law_pick" (top 25), ddOf "_law_same" (top 26), ddOf "_law_gcd" (top 27), ddOf "_law_low" (top 28), ddOf "_law_trimmed" (top 29), ddOf "_law_product" (top 30), ddOf "_law_value" (top 31), ddOf "_law_poly" (top 32), ddOf "_law_at" (top 33), ddOf "_law_content" (top 34), ddOf "_law_is" (top 35), ddOf "law" (top 36)]
def fa : List He.Fa := [.glo "is_whole", .glo "divisor", .glo "ratio", .glo "whole_power", .glo "is_poly", .glo "trimmed", .glo "at_number", .glo "poly_added", .glo "poly_scaled", .glo "poly_taken", .glo "poly_times", .glo "poly_raised", .glo "slope", .glo "content", .glo "plain_part", .glo "poly_at", .glo "_law_draws", .glo "_law_next", .glo "_law_pick", .glo "_law_same", .glo "_law_gcd", .glo "_law_low", .glo "_law_trimmed", .glo "_law_product", .glo "_law_value", .glo "_law_poly", .glo "_law_at", .glo "_law_content", .glo "_law_is", .glo "law"] ++ bltNames.map He.Fa.free
def ex (K : PySem.W.Frag) : Bool := decide (PySem.W.nsIn K mainGlobals "gcd" = some (some (.builtin "math.gcd")))
abbrev R : PySem.W.OpenRow := PySem.W.OpenLaw.row rw
abbrev hk : PySem.W.Hook := He.hookX 4 fa fn [] [] ex
def ob (s : PySem.W.SharedT) : He.AlX := He.obsX 4 fa fn [] [] ex (HandSHeadRun.getT s)
theorem ob_eq (s : PySem.W.SharedT) : ob s = hk.obs s.abs := He.obsX_eq (HandSHeadRun.getT_eq s)
def loose : List PySem.Str := ["AgreeError", "BadPlan", "is_whole", "divisor", "ratio", "whole_power", "is_poly", "trimmed", "at_number", "poly_added", "poly_scaled", "poly_taken", "poly_times", "poly_raised", "slope", "content", "plain_part", "poly_at", "_law_draws", "_law_next", "_law_pick", "_law_same", "_law_gcd", "_law_low", "_law_trimmed", "_law_product", "_law_value", "_law_poly", "_law_at", "_law_content", "_law_is"]
theorem run (w : World) : HandSHeadRun.RunEqI R (PySem.W.view R.prog [0, 36]) hk ob 6000 loose w := by
  unfold HandSHeadRun.RunEqI
  kernel_rfl
section
variable {P : Program} {w : World} {K : PySem.W.Frag} {h : Heap} {mg : Str → Option Value} {base : Heap} (X : K.In h) (G : h.Ns mainGlobals mg) (c : He.SaysD fa fn K) (e : ex K = true)
include X G c e
theorem top_ok : Top K mg true [] [] :=
  ⟨fun x hx => free_of X G c (List.mem_append_right _ (List.mem_map_of_mem hx)), fun _ => PySem.W.mg_of X G (of_decide_eq_true e), rfl, fun i x d h => by simp at h⟩
theorem top_no : Top K mg false [] [] := ⟨(top_ok X G c e).blt, (fun z => nomatch z), rfl, fun i x d h => by simp at h⟩
theorem d__law_draws : FnD P w K mg base (fun _ => 0) "_law_draws" 1 sp_draws := by
  obtain ⟨f, fd, F, hm⟩ := fun_of X G c (x := "_law_draws") (st := top 23) (List.mem_of_getElem? (i := 16) rfl) (List.mem_append_left _ (List.mem_of_getElem? (i := 16) rfl))
  exact fnd_of (k := 0) F hm sc__law_draws (F.binds fun _ _ _ _ _ _ us hl => match us, hl with | [_], _ => rfl) rfl (top_no X G c e) .nil chk__law_draws b__law_draws
theorem d__law_next : FnD P w K mg base (fun _ => 0) "_law_next" 1 sp_next := by
  obtain ⟨f, fd, F, hm⟩ := fun_of X G c (x := "_law_next") (st := top 24) (List.mem_of_getElem? (i := 17) rfl) (List.mem_append_left _ (List.mem_of_getElem? (i := 17) rfl))
  exact fnd_of (k := 0) F hm sc__law_next (F.binds fun _ _ _ _ _ _ us hl => match us, hl with | [_, _], _ => rfl) rfl (top_no X G c e) .nil chk__law_next b__law_next
theorem d__law_pick : FnD P w K mg base (fun _ => 0) "_law_pick" 2 sp_pick := by
  obtain ⟨f, fd, F, hm⟩ := fun_of X G c (x := "_law_pick") (st := top 25) (List.mem_of_getElem? (i := 18) rfl) (List.mem_append_left _ (List.mem_of_getElem? (i := 18) rfl))
  exact fnd_of (k := 1) F hm sc__law_pick (F.binds fun _ _ _ _ _ _ us hl => match us, hl with | [_, _], _ => rfl) rfl (top_no X G c e) (.cons (d__law_next X G c e) (by decide) .nil) chk__law_pick b__law_pick
theorem d__law_trimmed : FnD P w K mg base (fun _ => 0) "_law_trimmed" 1 sp_trim := by
  obtain ⟨f, fd, F, hm⟩ := fun_of X G c (x := "_law_trimmed") (st := top 29) (List.mem_of_getElem? (i := 22) rfl) (List.mem_append_left _ (List.mem_of_getElem? (i := 22) rfl))
  exact fnd_of (k := 0) F hm sc__law_trimmed (F.binds fun _ _ _ _ _ _ us hl => match us, hl with | [_], _ => rfl) rfl (top_no X G c e) .nil chk__law_trimmed b__law_trimmed
theorem d__law_poly : FnD P w K mg base (fun _ => 0) "_law_poly" 3 sp_poly := by
  obtain ⟨f, fd, F, hm⟩ := fun_of X G c (x := "_law_poly") (st := top 32) (List.mem_of_getElem? (i := 25) rfl) (List.mem_append_left _ (List.mem_of_getElem? (i := 25) rfl))
  exact fnd_of (k := 2) F hm sc__law_poly (F.binds fun _ _ _ _ _ _ us hl => match us, hl with | [_], _ => rfl) rfl (top_no X G c e) (.cons (d__law_pick X G c e) (by decide) (.cons (d__law_trimmed X G c e) (by decide) (.cons (d__law_next X G c e) (by decide) .nil))) chk__law_poly b__law_poly
theorem d__law_product : FnD P w K mg base (fun _ => 0) "_law_product" 2 sp_prod := by
  obtain ⟨f, fd, F, hm⟩ := fun_of X G c (x := "_law_product") (st := top 30) (List.mem_of_getElem? (i := 23) rfl) (List.mem_append_left _ (List.mem_of_getElem? (i := 23) rfl))
  exact fnd_of (k := 1) F hm sc__law_product (F.binds fun _ _ _ _ _ _ us hl => match us, hl with | [_, _], _ => rfl) rfl (top_no X G c e) (.cons (d__law_trimmed X G c e) (by decide) .nil) chk__law_product b__law_product
theorem d__law_at : FnD P w K mg base (fun _ => 0) "_law_at" 1 sp_at := by
  obtain ⟨f, fd, F, hm⟩ := fun_of X G c (x := "_law_at") (st := top 33) (List.mem_of_getElem? (i := 26) rfl) (List.mem_append_left _ (List.mem_of_getElem? (i := 26) rfl))
  exact fnd_of (k := 0) F hm sc__law_at (F.binds fun _ _ _ _ _ _ us hl => match us, hl with | [_, _], _ => rfl) rfl (top_no X G c e) .nil chk__law_at b_at_number
theorem d__law_gcd : FnD P w K mg base (fun _ => 0) "_law_gcd" 1 sp_divisor := by
  obtain ⟨f, fd, F, hm⟩ := fun_of X G c (x := "_law_gcd") (st := top 27) (List.mem_of_getElem? (i := 20) rfl) (List.mem_append_left _ (List.mem_of_getElem? (i := 20) rfl))
  exact fnd_of (k := 0) F hm sc__law_gcd (F.binds fun _ _ _ _ _ _ us hl => match us, hl with | [_, _], _ => rfl) rfl (top_no X G c e) .nil chk__law_gcd b__law_gcd
theorem d__law_content : FnD P w K mg base (fun _ => 0) "_law_content" 2 sp_cont := by
  obtain ⟨f, fd, F, hm⟩ := fun_of X G c (x := "_law_content") (st := top 34) (List.mem_of_getElem? (i := 27) rfl) (List.mem_append_left _ (List.mem_of_getElem? (i := 27) rfl))
  exact fnd_of (k := 1) F hm sc__law_content (F.binds fun _ _ _ _ _ _ us hl => match us, hl with | [_], _ => rfl) rfl (top_no X G c e) (.cons (d__law_gcd X G c e) (by decide) .nil) chk__law_content b_content
theorem d_trimmed : FnD P w K mg base (fun _ => 0) "trimmed" 1 sp_trim := by
  obtain ⟨f, fd, F, hm⟩ := fun_of X G c (x := "trimmed") (st := top 11) (List.mem_of_getElem? (i := 5) rfl) (List.mem_append_left _ (List.mem_of_getElem? (i := 5) rfl))
  exact fnd_of (k := 0) F hm sc_trimmed (F.binds fun _ _ _ _ _ _ us hl => match us, hl with | [_], _ => rfl) rfl (top_no X G c e) .nil chk_trimmed b_trimmed
theorem d_at_number : FnD P w K mg base (fun _ => 0) "at_number" 1 sp_at := by
  obtain ⟨f, fd, F, hm⟩ := fun_of X G c (x := "at_number") (st := top 12) (List.mem_of_getElem? (i := 6) rfl) (List.mem_append_left _ (List.mem_of_getElem? (i := 6) rfl))
  exact fnd_of (k := 0) F hm sc_at_number (F.binds fun _ _ _ _ _ _ us hl => match us, hl with | [_, _], _ => rfl) rfl (top_no X G c e) .nil chk_at_number b_at_number
theorem d_poly_added : FnD P w K mg base (fun _ => 0) "poly_added" 2 sp_added := by
  obtain ⟨f, fd, F, hm⟩ := fun_of X G c (x := "poly_added") (st := top 13) (List.mem_of_getElem? (i := 7) rfl) (List.mem_append_left _ (List.mem_of_getElem? (i := 7) rfl))
  exact fnd_of (k := 1) F hm sc_poly_added (F.binds fun _ _ _ _ _ _ us hl => match us, hl with | [_, _], _ => rfl) rfl (top_no X G c e) (.cons (d_trimmed X G c e) (by decide) (.cons (d_at_number X G c e) (by decide) .nil)) chk_poly_added b_poly_added
theorem d_poly_scaled : FnD P w K mg base (fun _ => 0) "poly_scaled" 2 sp_scaled := by
  obtain ⟨f, fd, F, hm⟩ := fun_of X G c (x := "poly_scaled") (st := top 14) (List.mem_of_getElem? (i := 8) rfl) (List.mem_append_left _ (List.mem_of_getElem? (i := 8) rfl))
  exact fnd_of (k := 1) F hm sc_poly_scaled (F.binds fun _ _ _ _ _ _ us hl => match us, hl with | [_, _], _ => rfl) rfl (top_no X G c e) (.cons (d_trimmed X G c e) (by decide) .nil) chk_poly_scaled b_poly_scaled
theorem d_poly_taken : FnD P w K mg base (fun _ => 0) "poly_taken" 3 sp_taken := by
  obtain ⟨f, fd, F, hm⟩ := fun_of X G c (x := "poly_taken") (st := top 15) (List.mem_of_getElem? (i := 9) rfl) (List.mem_append_left _ (List.mem_of_getElem? (i := 9) rfl))
  exact fnd_of (k := 2) F hm sc_poly_taken (F.binds fun _ _ _ _ _ _ us hl => match us, hl with | [_, _], _ => rfl) rfl (top_no X G c e) (.cons (d_poly_added X G c e) (by decide) (.cons (d_poly_scaled X G c e) (by decide) .nil)) chk_poly_taken b_poly_taken
theorem d_poly_times : FnD P w K mg base (fun _ => 0) "poly_times" 2 sp_prod := by
  obtain ⟨f, fd, F, hm⟩ := fun_of X G c (x := "poly_times") (st := top 16) (List.mem_of_getElem? (i := 10) rfl) (List.mem_append_left _ (List.mem_of_getElem? (i := 10) rfl))
  exact fnd_of (k := 1) F hm sc_poly_times (F.binds fun _ _ _ _ _ _ us hl => match us, hl with | [_, _], _ => rfl) rfl (top_no X G c e) (.cons (d_trimmed X G c e) (by decide) .nil) chk_poly_times b_poly_times
theorem d_poly_raised : FnD P w K mg base (fun _ => 0) "poly_raised" 3 sp_raised := by
  obtain ⟨f, fd, F, hm⟩ := fun_of X G c (x := "poly_raised") (st := top 17) (List.mem_of_getElem? (i := 11) rfl) (List.mem_append_left _ (List.mem_of_getElem? (i := 11) rfl))
  exact fnd_of (k := 2) F hm sc_poly_raised (F.binds fun _ _ _ _ _ _ us hl => match us, hl with | [_, _], _ => rfl) rfl (top_no X G c e) (.cons (d_poly_times X G c e) (by decide) .nil) chk_poly_raised b_poly_raised
theorem d_slope : FnD P w K mg base (fun _ => 0) "slope" 2 sp_slope := by
  obtain ⟨f, fd, F, hm⟩ := fun_of X G c (x := "slope") (st := top 18) (List.mem_of_getElem? (i := 12) rfl) (List.mem_append_left _ (List.mem_of_getElem? (i := 12) rfl))
  exact fnd_of (k := 1) F hm sc_slope (F.binds fun _ _ _ _ _ _ us hl => match us, hl with | [_], _ => rfl) rfl (top_no X G c e) (.cons (d_trimmed X G c e) (by decide) .nil) chk_slope b_slope
theorem d_divisor : FnD P w K mg base (fun _ => 0) "divisor" 1 sp_divisor := by
  obtain ⟨f, fd, F, hm⟩ := fun_of X G c (x := "divisor") (st := top 6) (List.mem_of_getElem? (i := 1) rfl) (List.mem_append_left _ (List.mem_of_getElem? (i := 1) rfl))
  exact fnd_of (k := 0) F hm sc_divisor (F.binds fun _ _ _ _ _ _ us hl => match us, hl with | [_, _], _ => rfl) rfl (top_ok X G c e) .nil chk_divisor b_divisor
theorem d_content : FnD P w K mg base (fun _ => 0) "content" 2 sp_cont := by
  obtain ⟨f, fd, F, hm⟩ := fun_of X G c (x := "content") (st := top 19) (List.mem_of_getElem? (i := 13) rfl) (List.mem_append_left _ (List.mem_of_getElem? (i := 13) rfl))
  exact fnd_of (k := 1) F hm sc_content (F.binds fun _ _ _ _ _ _ us hl => match us, hl with | [_], _ => rfl) rfl (top_no X G c e) (.cons (d_divisor X G c e) (by decide) .nil) chk_content b_content
theorem d__law_same : ∀ n : Nat, FnD P w K mg base (fun _ => 0) "_law_same" n (sp_same n)
  | 0 => by
    obtain ⟨f, fd, F, hm⟩ := fun_of X G c (x := "_law_same") (st := top 26) (List.mem_of_getElem? (i := 19) rfl) (List.mem_append_left _ (List.mem_of_getElem? (i := 19) rfl))
    exact fnd_no (ps := ["one", "other"]) F hm (F.binds fun _ _ _ _ _ _ us hl => match us, hl with | [_, _], _ => rfl) rfl (fun ds M Q E ⟨_, a, _, h, _⟩ => by unfold smOk at h; cases h)
  | n + 1 => by
    obtain ⟨f, fd, F, hm⟩ := fun_of X G c (x := "_law_same") (st := top 26) (List.mem_of_getElem? (i := 19) rfl) (List.mem_append_left _ (List.mem_of_getElem? (i := 19) rfl))
    exact fnd_of F hm sc__law_same (F.binds fun _ _ _ _ _ _ us hl => match us, hl with | [_, _], _ => rfl) rfl (top_no X G c e) (.cons (d__law_same n) (Nat.le_refl n) .nil) chk__law_same (b__law_same n)
theorem d_plain_part : FnD P w K mg base (fun _ => 0) "plain_part" 3 sp_plain := by
  obtain ⟨f, fd, F, hm⟩ := fun_of X G c (x := "plain_part") (st := top 20) (List.mem_of_getElem? (i := 14) rfl) (List.mem_append_left _ (List.mem_of_getElem? (i := 14) rfl))
  exact fnd_of (k := 2) F hm sc_plain_part (F.binds fun _ _ _ _ _ _ us hl => match us, hl with | [_], _ => rfl) rfl (top_no X G c e) (.cons (d_content X G c e) (by decide) .nil) chk_plain_part b_plain_part
theorem d__law_low : FnD P w K mg base (fun _ => 0) "_law_low" 2 sp_low := by
  obtain ⟨f, fd, F, hm⟩ := fun_of X G c (x := "_law_low") (st := top 28) (List.mem_of_getElem? (i := 21) rfl) (List.mem_append_left _ (List.mem_of_getElem? (i := 21) rfl))
  exact fnd_of (k := 1) F hm sc__law_low (F.binds fun _ _ _ _ _ _ us hl => match us, hl with | [_, _], _ => rfl) rfl (top_no X G c e) (.cons (d__law_gcd X G c e) (by decide) .nil) chk__law_low b__law_low
theorem d__law_value : FnD P w K mg base (fun _ => 0) "_law_value" 1 sp_value := by
  obtain ⟨f, fd, F, hm⟩ := fun_of X G c (x := "_law_value") (st := top 31) (List.mem_of_getElem? (i := 24) rfl) (List.mem_append_left _ (List.mem_of_getElem? (i := 24) rfl))
  exact fnd_of (k := 0) F hm sc__law_value (F.binds fun _ _ _ _ _ _ us hl => match us, hl with | [_, _, _], _ => rfl) rfl (top_no X G c e) .nil chk__law_value b__law_value
theorem d_whole_power : FnD P w K mg base (fun _ => 0) "whole_power" 1 sp_power := by
  obtain ⟨f, fd, F, hm⟩ := fun_of X G c (x := "whole_power") (st := top 8) (List.mem_of_getElem? (i := 3) rfl) (List.mem_append_left _ (List.mem_of_getElem? (i := 3) rfl))
  exact fnd_of (k := 0) F hm sc_whole_power (F.binds fun _ _ _ _ _ _ us hl => match us, hl with | [_, _], _ => rfl) rfl (top_no X G c e) .nil chk_whole_power b_whole_power
theorem d_is_whole : FnD P w K mg base (fun _ => 0) "is_whole" 1 sp_is_whole := by
  obtain ⟨f, fd, F, hm⟩ := fun_of X G c (x := "is_whole") (st := top 5) (List.mem_of_getElem? (i := 0) rfl) (List.mem_append_left _ (List.mem_of_getElem? (i := 0) rfl))
  exact fnd_of (k := 0) F hm sc_is_whole (F.binds fun _ _ _ _ _ _ us hl => match us, hl with | [_], _ => rfl) rfl (top_no X G c e) .nil chk_is_whole b_is_whole
theorem d_ratio : FnD P w K mg base (fun _ => 0) "ratio" 2 sp_low := by
  obtain ⟨f, fd, F, hm⟩ := fun_of X G c (x := "ratio") (st := top 7) (List.mem_of_getElem? (i := 2) rfl) (List.mem_append_left _ (List.mem_of_getElem? (i := 2) rfl))
  exact fnd_of (k := 1) F hm sc_ratio (F.binds fun _ _ _ _ _ _ us hl => match us, hl with | [_, _], _ => rfl) rfl (top_no X G c e) (.cons (d_is_whole X G c e) (by decide) (.cons (d_divisor X G c e) (by decide) .nil)) chk_ratio b_ratio
theorem d_poly_at : FnD P w K mg base (fun _ => 0) "poly_at" 3 sp_poly_at := by
  obtain ⟨f, fd, F, hm⟩ := fun_of X G c (x := "poly_at") (st := top 21) (List.mem_of_getElem? (i := 15) rfl) (List.mem_append_left _ (List.mem_of_getElem? (i := 15) rfl))
  exact fnd_of (k := 2) F hm sc_poly_at (F.binds fun _ _ _ _ _ _ us hl => match us, hl with | [_, _], _ => rfl) rfl (top_no X G c e) (.cons (d_whole_power X G c e) (by decide) (.cons (d_ratio X G c e) (by decide) .nil)) chk_poly_at b_poly_at
theorem d_is_poly : FnD P w K mg base (fun _ => 0) "is_poly" 2 sp_is := by
  obtain ⟨f, fd, F, hm⟩ := fun_of X G c (x := "is_poly") (st := top 10) (List.mem_of_getElem? (i := 4) rfl) (List.mem_append_left _ (List.mem_of_getElem? (i := 4) rfl))
  exact fnd_of (k := 1) F hm sc_is_poly (F.binds fun _ _ _ _ _ _ us hl => match us, hl with | [_], _ => rfl) rfl (top_no X G c e) (.cons (d_is_whole X G c e) (by decide) .nil) chk_is_poly b_is_poly
theorem d__law_is : FnD P w K mg base (fun _ => 0) "_law_is" 1 sp_is := by
  obtain ⟨f, fd, F, hm⟩ := fun_of X G c (x := "_law_is") (st := top 35) (List.mem_of_getElem? (i := 28) rfl) (List.mem_append_left _ (List.mem_of_getElem? (i := 28) rfl))
  exact fnd_of (k := 0) F hm sc__law_is (F.binds fun _ _ _ _ _ _ us hl => match us, hl with | [_], _ => rfl) rfl (top_no X G c e) .nil chk__law_is b__law_is
end
end DL
open PySem PySem.W PySem.Calls PyProof.Rows
theorem PySem.Challenge.cw_throwsagree_k27_whole_polynomials_of_who_holds : PySem.Challenge.rw_throwsagree_k27_whole_polynomials_of_who.Holds := by
  w_on; o_law
  refine HandSHeadRun.head_imp (r := OpenLaw.row PySem.Challenge.rw_throwsagree_k27_whole_polynomials_of_who) (q := view (OpenLaw.row PySem.Challenge.rw_throwsagree_k27_whole_polynomials_of_who).prog [0, 36]) (H := DL.hk) (ob := DL.ob) (M := 6000) (loose := DL.loose) (d := HandSHeadRun.topDef (OpenLaw.row PySem.Challenge.rw_throwsagree_k27_whole_polynomials_of_who).prog 36) (kwd := []) DL.ob_eq
    DL.run (by kernel_rfl) (by kernel_rfl) (by kernel_rfl) (by rfl) (by first | assumption | decide +kernel) (by decide +kernel) ⟨rfl, rfl, rfl, rfl, rfl, by decide +kernel⟩ ?hw ?hc
  case hw => w_witness2
  case hc =>
    refine L2.walk_ofE (l := PySem.Challenge.rw_throwsagree_k27_whole_polynomials_of_who) (n := 63) (k := 4) (x := "script") (CX := L2.CX0) rfl (by decide) (by kernel_rfl) (DL.lawRoom (by decide)) ?F (fun _ _ _ _ z => z)
    intro w mg fa h Y G hmg0
    obtain ⟨K, KX, cx⟩ := Y
    have hmg : mg ("law" : PySem.Str) = some (.ref fa) := by
      have e : (HandSHeadRun.topDef (OpenLaw.row PySem.Challenge.rw_throwsagree_k27_whole_polynomials_of_who).prog 36).name = ("law" : PySem.Str) := by kernel_rfl
      rw [← e]
      exact hmg0
    obtain ⟨f, fd, F, hm⟩ := DL.fun_of KX G cx.t.d (x := "law") (st := DL.top 36) (List.mem_of_getElem? (i := 29) rfl) (List.mem_append_left _ (List.mem_of_getElem? (i := 29) rfl))
    have ef : f = fa := by rw [hm] at hmg; cases hmg; rfl
    subst ef
    have hb := DL.fun_bindsA (ps := ["script"]) F fun _ _ _ _ _ _ us hl => match us, hl with | [_], _ => rfl
    refine ⟨K, fd, fun vs H Q _ => DL.toSp K (fun _ => 0) DL.spLaw vs H Q L2.E0, KX, fun s v => hb s [v] rfl, fun H a ns hl _ hS => DL.law_sp hl hS, fun base _ _ => ?_⟩
    exact DL.fn_cx0 (DL.fnok_of (k := 3) F DL.sc_law rfl (DL.top_no KX G cx.t.d cx.more) (.cons (DL.d__law_draws KX G cx.t.d cx.more) (by decide) (.cons (DL.d__law_poly KX G cx.t.d cx.more) (by decide) (.cons (DL.d__law_next KX G cx.t.d cx.more) (by decide) (.cons (DL.d__law_product KX G cx.t.d cx.more) (by decide) (.cons (DL.d__law_trimmed KX G cx.t.d cx.more) (by decide) (.cons (DL.d__law_at KX G cx.t.d cx.more) (by decide) (.cons (DL.d__law_content KX G cx.t.d cx.more) (by decide) (.cons (DL.d_poly_added KX G cx.t.d cx.more) (by decide) (.cons (DL.d_poly_taken KX G cx.t.d cx.more) (by decide) (.cons (DL.d_poly_times KX G cx.t.d cx.more) (by decide) (.cons (DL.d_poly_raised KX G cx.t.d cx.more) (by decide) (.cons (DL.d_poly_scaled KX G cx.t.d cx.more) (by decide) (.cons (DL.d_slope KX G cx.t.d cx.more) (by decide) (.cons (DL.d_content KX G cx.t.d cx.more) (by decide) (.cons (DL.d__law_same KX G cx.t.d cx.more 3) (by decide) (.cons (DL.d_plain_part KX G cx.t.d cx.more) (by decide) (.cons (DL.d__law_low KX G cx.t.d cx.more) (by decide) (.cons (DL.d__law_value KX G cx.t.d cx.more) (by decide) (.cons (DL.d_poly_at KX G cx.t.d cx.more) (by decide) (.cons (DL.d__law_pick KX G cx.t.d cx.more) (by decide) (.cons (DL.d_is_poly KX G cx.t.d cx.more) (by decide) (.cons (DL.d__law_is KX G cx.t.d cx.more) (by decide) .nil)))))))))))))))))))))) DL.chk_law DL.b_law)
