import PyProof.Rows.All
import Wide.All
import OpenK.AllK
import Wide.FinOn
import HandS.ForMost
import HandS.Conv
import HandS.Wide
import HandS.TupAny
import HandS.IsInst
import HandS.Flow
import HandS.Deep
import HandS.Gcd
import HandS.SortInts
import PySem.Challenge.RW_ontoworks_k64_right
set_option Elab.async false
set_option linter.all false
set_option maxRecDepth 100000
set_option maxHeartbeats 1000000
/-! Core 1: deep data, the abstract heap, how they lie in the hand layer's heap. -/
namespace Cr
open PySem PySem.Spec PyProof.Rows L2

/-- a deep value: tuples and lists that are never changed as data, what is changed by its number -/
inductive D where
  | non | bl (b : Bool) | int (i : Int) | str (x : Str) | tup (xs : List D) | lst (xs : List D) | ref (n : Nat) | scr (ns : List Int)
/-- what is changed -/
inductive O where
  | lst (xs : List D) | dK (kvs : List (L2.Key × D)) | dT (kvs : List (List L2.Key × D)) | ins (C : Nat) (fs : List (Str × D))
abbrev Hs := List O
abbrev S := List (Option D)

/-- a tuple, a list of the written part -/
def KT (K : PySem.W.Frag) (a : Addr) (xs : List V) : Prop :=
  ∃ (o : Obj) (its : Array Value) (n : Nat), K.lookup a = some o ∧ o.cls = .type "tuple" ∧ o.data = .seq its n ∧ its.size ≤ sizeLine ∧ Vals xs its.toList
def KL (K : PySem.W.Frag) (a : Addr) (xs : List V) : Prop :=
  ∃ (o : Obj) (its : Array Value) (n : Nat), K.lookup a = some o ∧ o.cls = .type "list" ∧ o.dict = none ∧ o.data = .seq its n ∧ its.size ≤ sizeLine ∧ Vals xs its.toList
/-- the addresses of the changed things, by number; addresses that no value is to name -/
structure Al where
  r : List Addr
  x : List Addr
/-- neither of them -/
def Nin (a : Addr) (al : Al) : Prop := a ∉ al.r ∧ a ∉ al.x
mutual
/-- the value v, in the heap H, is d; the changed things stand at the addresses al -/
inductive RV (K : PySem.W.Frag) (H : Hp) (al : Al) : V → D → Prop
  | non : RV K H al .non .non
  | bl (b : Bool) : RV K H al (.bl b) (.bl b)
  | int (i : Int) : RV K H al (.int i) (.int i)
  | str (x : Str) : RV K H al (.str x) (.str x)
  | tup {a : Addr} {vs : List V} {ds : List D} : ((H a = some (.tup vs) ∧ Nin a al) ∨ False) → RVs K H al vs ds → RV K H al (.ref a) (.tup ds)
  | lst {a : Addr} {vs : List V} {ds : List D} : H a = some (.lst vs) → Nin a al → RVs K H al vs ds → RV K H al (.ref a) (.lst ds)
  | scr {a : Addr} {ns : List Int} : ((Rd H a (.lst (ns.map V.int)) ∧ Nin a al) ∨ KL K a (ns.map V.int)) → RV K H al (.ref a) (.scr ns)
  | ref {n : Nat} {a : Addr} : al.r[n]? = some a → RV K H al (.ref a) (.ref n)
inductive RVs (K : PySem.W.Frag) (H : Hp) (al : Al) : List V → List D → Prop
  | nil : RVs K H al [] []
  | cons {v : V} {vs : List V} {d : D} {ds : List D} : RV K H al v d → RVs K H al vs ds → RVs K H al (v :: vs) (d :: ds)
end

/-- from one state of the heap to a later one -/
structure Stp (al : Al) (H : Hp) (al' : Al) (H' : Hp) : Prop where
  pre : ∃ be, al'.r = al.r ++ be
  px1 : ∀ a, a ∈ al.x → a ∈ al'.x
  px2 : ∀ a, a ∈ al'.x → a ∈ al.x ∨ a ∈ al.r ∨ H a = none
  kp : ∀ a o, H a = some o → a ∉ al.r → H' a = some o
  fr : ∀ a, a ∈ al'.r → a ∈ al.r ∨ H a = none
theorem Stp.refl (al : Al) (H : Hp) : Stp al H al H := ⟨⟨[], by simp⟩, fun _ h => h, fun _ h => .inl h, fun _ _ h _ => h, fun _ h => .inl h⟩
theorem Stp.get {al al' : Al} {H H' : Hp} (s : Stp al H al' H') {n : Nat} {a : Addr} (h : al.r[n]? = some a) : al'.r[n]? = some a := by
  obtain ⟨be, e⟩ := s.pre
  rw [e, List.getElem?_append_left (List.getElem?_eq_some_iff.mp h).1]
  exact h
theorem Stp.sub {al al' : Al} {H H' : Hp} (s : Stp al H al' H') {a : Addr} (h : a ∈ al.r) : a ∈ al'.r := by
  obtain ⟨be, e⟩ := s.pre
  rw [e]
  exact List.mem_append_left _ h
theorem Stp.trans {al al1 al2 : Al} {H H1 H2 : Hp} (a : Stp al H al1 H1) (b : Stp al1 H1 al2 H2) : Stp al H al2 H2 := by
  have back : ∀ c, H1 c = none → c ∈ al.r ∨ H c = none := fun c z => by
    by_cases hc' : c ∈ al.r
    · exact .inl hc'
    · right
      cases q : H c with
      | none => rfl
      | some o => rw [a.kp c o q hc'] at z; cases z
  refine ⟨?_, fun c hc => b.px1 c (a.px1 c hc), fun c hc => ?_, fun c o h hc => ?_, fun c hc => ?_⟩
  · obtain ⟨x, e⟩ := a.pre
    obtain ⟨y, e'⟩ := b.pre
    exact ⟨x ++ y, by rw [e', e, List.append_assoc]⟩
  · rcases b.px2 c hc with z | z | z
    · exact a.px2 c z
    · exact .inr (a.fr c z)
    · exact .inr (back c z)
  · refine b.kp c o (a.kp c o h hc) fun h1 => ?_
    rcases a.fr c h1 with z | z
    · exact hc z
    · rw [h] at z; cases z
  · rcases b.fr c hc with z | z
    · exact a.fr c z
    · exact back c z
theorem Stp.notin {al al' : Al} {H H' : Hp} (s : Stp al H al' H') {a : Addr} {o : HO} (h : H a = some o) (hn : Nin a al) : Nin a al' := by
  refine ⟨fun z => ?_, fun z => ?_⟩
  · rcases s.fr a z with z | z
    · exact hn.1 z
    · rw [h] at z; cases z
  · rcases s.px2 a z with z | z | z
    · exact hn.2 z
    · exact hn.1 z
    · rw [h] at z; cases z
/-- the heap has grown, nothing is changed -/
theorem Stp.grow {al : Al} {H H' : Hp} (s : ∀ b o, H b = some o → H' b = some o) : Stp al H al H' := ⟨⟨[], by simp⟩, fun _ h => h, fun _ h => .inl h, fun a o h _ => s a o h, fun _ h => .inl h⟩
theorem Rd.stp {al al' : Al} {H H' : Hp} (s : Stp al H al' H') {a : Addr} {u : HO} (h : Rd H a u) (hn : Nin a al) : Rd H' a u ∧ Nin a al' := by
  rcases h with h | ⟨o, h⟩
  · exact ⟨.inl (s.kp _ _ h hn.1), s.notin h hn⟩
  · exact ⟨.inr ⟨o, s.kp _ _ h hn.1⟩, s.notin h hn⟩
section
variable {K : PySem.W.Frag} {H H' : Hp} {al al' : Al}
mutual
theorem RV.stp (s : Stp al H al' H') : ∀ {v : V} {d : D}, RV K H al v d → RV K H' al' v d
  | _, _, .non => .non
  | _, _, .bl b => .bl b
  | _, _, .int i => .int i
  | _, _, .str x => .str x
  | _, _, .tup h r => .tup (h.elim (fun z => .inl ⟨s.kp _ _ z.1 z.2.1, s.notin z.1 z.2⟩) .inr) (RVs.stp s r)
  | _, _, .lst h n r => .lst (s.kp _ _ h n.1) (s.notin h n) (RVs.stp s r)
  | _, _, .scr h => .scr (h.elim (fun z => .inl (Rd.stp s z.1 z.2)) .inr)
  | _, _, .ref h => .ref (s.get h)
theorem RVs.stp (s : Stp al H al' H') : ∀ {vs : List V} {ds : List D}, RVs K H al vs ds → RVs K H' al' vs ds
  | _, _, .nil => .nil
  | _, _, .cons r t => .cons (RV.stp s r) (RVs.stp s t)
end
theorem RVs.length : ∀ {vs : List V} {ds : List D}, RVs K H al vs ds → vs.length = ds.length
  | _, _, .nil => rfl
  | _, _, .cons _ t => congrArg (· + 1) t.length
theorem RVs.get : ∀ {vs : List V} {ds : List D} {i : Nat} {d : D}, RVs K H al vs ds → ds[i]? = some d → ∃ v, vs[i]? = some v ∧ RV K H al v d
  | _, _, _, _, .nil, e => by simp at e
  | _, _, 0, _, .cons r _, e => by simp at e; subst e; exact ⟨_, rfl, r⟩
  | _, _, i + 1, d, .cons _ t, e => by
    obtain ⟨u, h1, h2⟩ := RVs.get (i := i) (d := d) t (by simpa using e)
    exact ⟨u, by simpa using h1, h2⟩
theorem RVs.getV : ∀ {vs : List V} {ds : List D} {i : Nat} {v : V}, RVs K H al vs ds → vs[i]? = some v → ∃ d, ds[i]? = some d ∧ RV K H al v d
  | _, _, _, _, .nil, e => by simp at e
  | _, _, 0, _, .cons r _, e => by simp at e; subst e; exact ⟨_, rfl, r⟩
  | _, _, i + 1, d, .cons _ t, e => by
    obtain ⟨u, h1, h2⟩ := RVs.getV (i := i) (v := d) t (by simpa using e)
    exact ⟨u, by simpa using h1, h2⟩
theorem RVs.app : ∀ {vs ws : List V} {ds es : List D}, RVs K H al vs ds → RVs K H al ws es → RVs K H al (vs ++ ws) (ds ++ es)
  | _, _, _, _, .nil, s => s
  | _, _, _, _, .cons r t, s => .cons r (RVs.app t s)
theorem RVs.take : ∀ {vs : List V} {ds : List D} (n : Nat), RVs K H al vs ds → RVs K H al (vs.take n) (ds.take n)
  | _, _, 0, _ => .nil
  | _, _, _ + 1, .nil => .nil
  | _, _, n + 1, .cons r t => .cons r (RVs.take n t)
theorem RVs.drop : ∀ {vs : List V} {ds : List D} (n : Nat), RVs K H al vs ds → RVs K H al (vs.drop n) (ds.drop n)
  | _, _, 0, r => r
  | _, _, _ + 1, .nil => .nil
  | _, _, n + 1, .cons _ t => RVs.drop n t
theorem RVs.erase : ∀ {vs : List V} {ds : List D} (i : Nat), RVs K H al vs ds → RVs K H al (vs.eraseIdx i) (ds.eraseIdx i)
  | _, _, _, .nil => .nil
  | _, _, 0, .cons _ t => t
  | _, _, i + 1, .cons r t => .cons r (RVs.erase i t)
theorem RVs.set {v : V} {d : D} (r : RV K H al v d) : ∀ {vs : List V} {ds : List D} (i : Nat), RVs K H al vs ds → RVs K H al (vs.set i v) (ds.set i d)
  | _, _, _, .nil => .nil
  | _, _, 0, .cons _ t => .cons r t
  | _, _, i + 1, .cons q t => .cons q (RVs.set r i t)
theorem RVs.isEmpty : ∀ {vs : List V} {ds : List D}, RVs K H al vs ds → vs.isEmpty = ds.isEmpty
  | _, _, .nil => rfl
  | _, _, .cons _ _ => rfl
theorem RVs.nil_iff : ∀ {vs : List V} {ds : List D}, RVs K H al vs ds → (vs = [] ↔ ds = [])
  | _, _, .nil => Iff.intro (fun _ => rfl) fun _ => rfl
  | _, _, .cons _ _ => Iff.intro (fun h => (nomatch h)) fun h => (nomatch h)
theorem RVs.ints : ∀ {vs : List V} {ns : List Int}, RVs K H al vs (ns.map D.int) → vs = ns.map V.int
  | _, [], .nil => rfl
  | _, n :: ns, .cons (.int _) t => congrArg (V.int n :: ·) (RVs.ints t)
theorem RVs.ofInts : ∀ (ns : List Int), RVs K H al (ns.map V.int) (ns.map D.int)
  | [] => .nil
  | n :: ns => .cons (.int n) (RVs.ofInts ns)
theorem RVs.bls : ∀ {vs : List V} {bs : List Bool}, RVs K H al vs (bs.map D.bl) → vs = bs.map V.bl
  | _, [], .nil => rfl
  | _, n :: ns, .cons (.bl _) t => congrArg (V.bl n :: ·) (RVs.bls t)
theorem RV.tupS {v : V} {ds : List D} (r : RV K H al v (.tup ds)) : ∃ a vs, v = .ref a ∧ SqT K H a vs ∧ RVs K H al vs ds := by
  cases r with
  | tup h r => exact ⟨_, _, rfl, h.elim (fun z => .inl (.inl z.1)) False.elim, r⟩
theorem RV.lstS {v : V} {ds : List D} (r : RV K H al v (.lst ds)) : ∃ a vs, v = .ref a ∧ H a = some (.lst vs) ∧ RVs K H al vs ds := by
  cases r with
  | lst h n r => exact ⟨_, _, rfl, h, r⟩
theorem RV.scrS {v : V} {ns : List Int} (r : RV K H al v (.scr ns)) : ∃ a, v = .ref a ∧ SqL K H a (ns.map V.int) := by
  cases r with
  | scr h => exact ⟨_, rfl, h.elim (fun z => .inl z.1) .inr⟩
end

/-! ### the changed things -/
/-- keys with their values -/
inductive RKs {κ : Type} (K : PySem.W.Frag) (H : Hp) (al : Al) : List (κ × V) → List (κ × D) → Prop
  | nil : RKs K H al [] []
  | cons {k : κ} {v : V} {vs : List (κ × V)} {d : D} {ds : List (κ × D)} : RV K H al v d → RKs K H al vs ds → RKs K H al ((k, v) :: vs) ((k, d) :: ds)
def RO (K : PySem.W.Frag) (cl : Nat → Option Addr) (H : Hp) (al : Al) (a : Addr) : O → Prop
  | .lst ds => ∃ vs, H a = some (.lst vs) ∧ RVs K H al vs ds
  | .dK kvs => ∃ ws, H a = some (.dK ws) ∧ RKs K H al ws kvs
  | .dT kvs => ∃ ws, H a = some (.dT ws) ∧ RKs K H al ws kvs
  | .ins C fs => ∃ A dx ws, cl C = some A ∧ H a = some (.ins A dx ws) ∧ RKs K H al ws fs
structure Rp (K : PySem.W.Frag) (cl : Nat → Option Addr) (H : Hp) (al : Al) (h : Hs) : Prop where
  len : al.r.length = h.length
  nd : al.r.Nodup
  obj : ∀ (n : Nat) (a : Addr) (o : O), al.r[n]? = some a → h[n]? = some o → RO K cl H al a o
  ex : ∀ a ∈ al.x, a ∉ al.r ∧ ∃ o, H a = some o
section
variable {K : PySem.W.Frag} {cl : Nat → Option Addr} {H H' : Hp} {al al' : Al} {h : Hs}
theorem RKs.stp {κ : Type} (s : Stp al H al' H') : ∀ {vs : List (κ × V)} {ds : List (κ × D)}, RKs K H al vs ds → RKs K H' al' vs ds
  | _, _, .nil => .nil
  | _, _, .cons r t => .cons (r.stp s) (RKs.stp s t)
theorem RO.there {a : Addr} {o : O} (r : RO K cl H al a o) : ∃ u, H a = some u := by
  cases o with
  | lst _ => obtain ⟨_, e, _⟩ := r; exact ⟨_, e⟩
  | dK _ => obtain ⟨_, e, _⟩ := r; exact ⟨_, e⟩
  | dT _ => obtain ⟨_, e, _⟩ := r; exact ⟨_, e⟩
  | ins _ _ => obtain ⟨_, _, _, _, e, _⟩ := r; exact ⟨_, e⟩
/-- the object stands as it stood -/
theorem RO.to {a : Addr} {o : O} (vv : ∀ {v : V} {d : D}, RV K H al v d → RV K H' al' v d) (e : H' a = H a) (r : RO K cl H al a o) : RO K cl H' al' a o := by
  have vs' : ∀ {vs : List V} {ds : List D}, RVs K H al vs ds → RVs K H' al' vs ds := by
    intro vs
    induction vs with
    | nil => intro ds r; cases r; exact .nil
    | cons v vs ih => intro ds r; cases r with | cons r t => exact .cons (vv r) (ih t)
  have ks' : ∀ {κ : Type} {vs : List (κ × V)} {ds : List (κ × D)}, RKs K H al vs ds → RKs K H' al' vs ds := by
    intro κ vs
    induction vs with
    | nil => intro ds r; cases r; exact .nil
    | cons v vs ih => intro ds r; cases r with | cons r t => exact .cons (vv r) (ih t)
  cases o with
  | lst _ => obtain ⟨vs, h, q⟩ := r; exact ⟨vs, e.trans h, vs' q⟩
  | dK _ => obtain ⟨vs, h, q⟩ := r; exact ⟨vs, e.trans h, ks' q⟩
  | dT _ => obtain ⟨vs, h, q⟩ := r; exact ⟨vs, e.trans h, ks' q⟩
  | ins _ _ => obtain ⟨A, dx, ws, c, h, q⟩ := r; exact ⟨A, dx, ws, c, e.trans h, ks' q⟩
theorem RO.stp (s : Stp al H al' H') {a : Addr} {o : O} (e : H' a = H a) (r : RO K cl H al a o) : RO K cl H' al' a o := r.to (fun q => q.stp s) e
theorem Rp.at_ (r : Rp K cl H al h) {n : Nat} {o : O} (e : h[n]? = some o) : ∃ a, al.r[n]? = some a ∧ RO K cl H al a o := by
  have hn := (List.getElem?_eq_some_iff.mp e).1
  rw [← r.len] at hn
  exact ⟨al.r[n], List.getElem?_eq_getElem hn, r.obj n _ o (List.getElem?_eq_getElem hn) e⟩
theorem Rp.there (r : Rp K cl H al h) {a : Addr} (m : a ∈ al.r) : ∃ u, H a = some u := by
  obtain ⟨n, hn, e⟩ := List.mem_iff_getElem.mp m
  have e1 : al.r[n]? = some a := by rw [List.getElem?_eq_getElem hn, e]
  have hn2 : n < h.length := by rw [← r.len]; exact hn
  have e2 : h[n]? = some h[n] := List.getElem?_eq_getElem hn2
  exact (r.obj n a _ e1 e2).there
theorem Rp.free (r : Rp K cl H al h) {p : Addr} (m : H p = none) : Nin p al := by
  refine ⟨fun z => ?_, fun z => ?_⟩
  · obtain ⟨u, e⟩ := r.there z
    rw [m] at e; cases e
  · obtain ⟨_, u, e⟩ := r.ex p z
    rw [m] at e; cases e
/-- the heap has grown -/
theorem Rp.grow (r : Rp K cl H al h) (s : ∀ b o, H b = some o → H' b = some o) : Rp K cl H' al h := by
  refine ⟨r.len, r.nd, fun n a o e1 e2 => ?_, fun a m => ?_⟩
  · have q := r.obj n a o e1 e2
    obtain ⟨u, hu⟩ := q.there
    exact q.stp (Stp.grow s) ((s a u hu).trans hu.symm)
  · obtain ⟨z, u, hu⟩ := r.ex a m
    exact ⟨z, u, s a u hu⟩
theorem Rp.ref (r : Rp K cl H al h) {v : V} {n : Nat} {o : O} (q : RV K H al v (.ref n)) (e : h[n]? = some o) : ∃ a, v = .ref a ∧ al.r[n]? = some a ∧ RO K cl H al a o := by
  cases q with
  | ref q =>
    obtain ⟨a, h1, h2⟩ := r.at_ e
    rw [q] at h1
    cases h1
    exact ⟨_, rfl, q, h2⟩
theorem same_upd {p : Addr} {o : HO} (hp : H p = none) : ∀ b u, H b = some u → upd H p o b = some u := fun b u e => by
  rw [upd_ne (ne_of_none e hp)]
  exact e
/-- a changed thing is written -/
theorem Stp.wr {a : Addr} {o : HO} (m : a ∈ al.r) : Stp al H al (upd H a o) :=
  ⟨⟨[], by simp⟩, fun _ h => h, fun _ h => .inl h, fun b u e hb => by rw [upd_ne (fun z => hb (by rw [z]; exact m))]; exact e, fun _ z => .inl z⟩
theorem nd_ix {al : List Addr} (nd : al.Nodup) {i j : Nat} {a : Addr} (h1 : al[i]? = some a) (h2 : al[j]? = some a) : i = j := by
  obtain ⟨k1, e1⟩ := List.getElem?_eq_some_iff.mp h1
  obtain ⟨k2, e2⟩ := List.getElem?_eq_some_iff.mp h2
  exact (List.getElem_inj nd).mp (e1.trans e2.symm)
theorem Rp.wr (r : Rp K cl H al h) {n : Nat} {a : Addr} {u : HO} {o : O} (e : al.r[n]? = some a) (q : RO K cl (upd H a u) al a o) : Rp K cl (upd H a u) al (h.set n o) := by
  have ma : a ∈ al.r := List.mem_of_getElem? e
  refine ⟨by rw [List.length_set]; exact r.len, r.nd, fun m b o' e1 e2 => ?_, fun b m => ?_⟩
  · by_cases hm : m = n
    · subst hm
      rw [e] at e1; cases e1
      have hl : m < h.length := by rw [← r.len]; exact (List.getElem?_eq_some_iff.mp e).1
      rw [List.getElem?_set_self hl] at e2
      cases e2
      exact q
    · rw [List.getElem?_set_ne (fun z => hm z.symm)] at e2
      have hb : b ≠ a := fun z => hm (nd_ix r.nd e1 (by rw [z]; exact e))
      exact (r.obj m b o' e1 e2).stp (Stp.wr ma) (upd_ne hb)
  · obtain ⟨z, u', hu⟩ := r.ex b m
    exact ⟨z, u', by rw [upd_ne (fun q => z (by rw [q]; exact ma))]; exact hu⟩
/-- a new address is hidden; a hidden one forgotten, or shown as a changed thing -/
def Al.hide (al : Al) (p : Addr) : Al := ⟨al.r, p :: al.x⟩
def Al.drop (al : Al) (p : Addr) : Al := ⟨al.r, al.x.filter fun a => decide (a ≠ p)⟩
def Al.more (al : Al) (p : Addr) : Al := ⟨al.r ++ [p], al.x.filter fun a => decide (a ≠ p)⟩
theorem ref_more {n : Nat} {a p : Addr} (h : al.r[n]? = some a) : (al.more p).r[n]? = some a := by
  show (al.r ++ [p])[n]? = _
  rw [List.getElem?_append_left (List.getElem?_eq_some_iff.mp h).1]
  exact h
theorem nin_unhide {a p : Addr} (hp : p ∈ al.x) (n : Nin a al) : Nin a (al.more p) := by
  obtain ⟨n1, n2⟩ := n
  refine ⟨fun z => ?_, fun z => n2 (List.mem_filter.mp z).1⟩
  rcases List.mem_append.mp (show a ∈ al.r ++ [p] from z) with z | z
  · exact n1 z
  · rw [List.mem_singleton.mp z] at n2
    exact n2 hp
theorem nin_open {a p : Addr} (n : Nin a al) : Nin a (al.drop p) := ⟨n.1, fun z => n.2 (List.mem_filter.mp z).1⟩
theorem rd_ne {a p : Addr} {u : HO} (hp : H p = none) (r : Rd H a u) (e : a = p) : False := by
  subst e
  rcases r with r | ⟨o, r⟩ <;> (rw [hp] at r; cases r)
theorem nin_hid {a p : Addr} {u : HO} (hp : H p = none) (r : Rd H a u) (n : Nin a al) : Nin a (al.hide p) := ⟨n.1, fun w' => (List.mem_cons.mp w').elim (fun e => rd_ne hp r e) n.2⟩
theorem rd_upd {a p : Addr} {u o : HO} (h : Rd H a u) (e : a ≠ p) : Rd (upd H p o) a u := by
  rcases h with h | ⟨o', h⟩
  · exact .inl (by rw [upd_ne e]; exact h)
  · exact .inr ⟨o', by rw [upd_ne e]; exact h⟩
theorem nin_ne {a p : Addr} (hp : p ∈ al.x) (n : Nin a al) : a ≠ p := fun e => n.2 (by rw [e]; exact hp)
mutual
theorem RV.unhide {p : Addr} (hp : p ∈ al.x) : ∀ {v : V} {d : D}, RV K H al v d → RV K H (al.more p) v d
  | _, _, .non => .non
  | _, _, .bl b => .bl b
  | _, _, .int i => .int i
  | _, _, .str x => .str x
  | _, _, .tup h r => .tup (h.elim (fun z => .inl ⟨z.1, nin_unhide hp z.2⟩) .inr) (RVs.unhide hp r)
  | _, _, .lst h n r => .lst h (nin_unhide hp n) (RVs.unhide hp r)
  | _, _, .scr h => .scr (h.elim (fun z => .inl ⟨z.1, nin_unhide hp z.2⟩) .inr)
  | _, _, .ref h => .ref (ref_more h)
theorem RVs.unhide {p : Addr} (hp : p ∈ al.x) : ∀ {vs : List V} {ds : List D}, RVs K H al vs ds → RVs K H (al.more p) vs ds
  | _, _, .nil => .nil
  | _, _, .cons r t => .cons (RV.unhide hp r) (RVs.unhide hp t)
end
mutual
theorem RV.open {p : Addr} : ∀ {v : V} {d : D}, RV K H al v d → RV K H (al.drop p) v d
  | _, _, .non => .non
  | _, _, .bl b => .bl b
  | _, _, .int i => .int i
  | _, _, .str x => .str x
  | _, _, .tup h r => .tup (h.elim (fun z => .inl ⟨z.1, nin_open z.2⟩) .inr) (RVs.open r)
  | _, _, .lst h n r => .lst h (nin_open n) (RVs.open r)
  | _, _, .scr h => .scr (h.elim (fun z => .inl ⟨z.1, nin_open z.2⟩) .inr)
  | _, _, .ref h => .ref h
theorem RVs.open {p : Addr} : ∀ {vs : List V} {ds : List D}, RVs K H al vs ds → RVs K H (al.drop p) vs ds
  | _, _, .nil => .nil
  | _, _, .cons r t => .cons (RV.open r) (RVs.open t)
end
mutual
theorem RV.hid {p : Addr} (hp : H p = none) : ∀ {v : V} {d : D}, RV K H al v d → RV K H (al.hide p) v d
  | _, _, .non => .non
  | _, _, .bl b => .bl b
  | _, _, .int i => .int i
  | _, _, .str x => .str x
  | _, _, .tup h r => .tup (h.elim (fun z => .inl ⟨z.1, nin_hid hp (.inl z.1) z.2⟩) .inr) (RVs.hid hp r)
  | _, _, .lst h n r => .lst h (nin_hid hp (.inl h) n) (RVs.hid hp r)
  | _, _, .scr h => .scr (h.elim (fun z => .inl ⟨z.1, nin_hid hp z.1 z.2⟩) .inr)
  | _, _, .ref h => .ref h
theorem RVs.hid {p : Addr} (hp : H p = none) : ∀ {vs : List V} {ds : List D}, RVs K H al vs ds → RVs K H (al.hide p) vs ds
  | _, _, .nil => .nil
  | _, _, .cons r t => .cons (RV.hid hp r) (RVs.hid hp t)
end
mutual
/-- what stands at a hidden address is nothing to a value -/
theorem RV.over {p : Addr} {o : HO} (hp : p ∈ al.x) : ∀ {v : V} {d : D}, RV K H al v d → RV K (upd H p o) al v d
  | _, _, .non => .non
  | _, _, .bl b => .bl b
  | _, _, .int i => .int i
  | _, _, .str x => .str x
  | _, _, .tup h r => .tup (h.elim (fun z => .inl ⟨(upd_ne (nin_ne hp z.2)).trans z.1, z.2⟩) .inr) (RVs.over hp r)
  | _, _, .lst h n r => .lst (by rw [upd_ne (nin_ne hp n)]; exact h) n (RVs.over hp r)
  | _, _, .scr h => .scr (h.elim (fun z => .inl ⟨rd_upd z.1 (nin_ne hp z.2), z.2⟩) .inr)
  | _, _, .ref h => .ref h
theorem RVs.over {p : Addr} {o : HO} (hp : p ∈ al.x) : ∀ {vs : List V} {ds : List D}, RVs K H al vs ds → RVs K (upd H p o) al vs ds
  | _, _, .nil => .nil
  | _, _, .cons r t => .cons (RV.over hp r) (RVs.over hp t)
end
theorem Rp.over (r : Rp K cl H al h) {p : Addr} {o : HO} (hp : p ∈ al.x) : Rp K cl (upd H p o) al h := by
  refine ⟨r.len, r.nd, fun n a u e1 e2 => (r.obj n a u e1 e2).to (fun z => z.over hp) (upd_ne fun z => ?_), fun a m => ⟨(r.ex a m).1, ?_⟩⟩
  · exact (r.ex p hp).1 (by rw [← z]; exact List.mem_of_getElem? e1)
  · by_cases e : a = p
    · subst e; exact ⟨o, upd_same⟩
    · obtain ⟨_, u, hu⟩ := r.ex a m
      exact ⟨u, by rw [upd_ne e]; exact hu⟩
/-- a new list at p, hidden -/
theorem Rp.hid (r : Rp K cl H al h) {p : Addr} {u : HO} (hp : H p = none) : Rp K cl (upd H p u) (al.hide p) h := by
  have g := same_upd (o := u) hp
  refine ⟨r.len, r.nd, fun n a o e1 e2 => ?_, fun a m => ?_⟩
  · have q := r.obj n a o e1 e2
    obtain ⟨w', hw⟩ := q.there
    exact q.to (fun z => (RV.hid hp z).stp (Stp.grow g)) ((g a w' hw).trans hw.symm)
  · rcases List.mem_cons.mp (show a ∈ p :: al.x from m) with m | m
    · subst m
      exact ⟨(r.free hp).1, u, upd_same⟩
    · obtain ⟨z, w', hw⟩ := r.ex a m
      exact ⟨z, w', g a w' hw⟩
theorem Rp.open (r : Rp K cl H al h) (p : Addr) : Rp K cl H (al.drop p) h :=
  ⟨r.len, r.nd, fun n a o e1 e2 => (r.obj n a o e1 e2).to (fun z => z.open) rfl, fun a m => r.ex a (List.mem_filter.mp m).1⟩
/-- the hidden list becomes a changed thing -/
theorem Rp.unhide {p : Addr} {o : O} (r : Rp K cl H al h) (hp : p ∈ al.x) (q : RO K cl H (al.more p) p o) : Rp K cl H (al.more p) (h ++ [o]) := by
  have hn : p ∉ al.r := (r.ex p hp).1
  have rl : al.r.length = h.length := r.len
  refine ⟨by show (al.r ++ [p]).length = _; rw [List.length_append, List.length_append, rl]; rfl, List.nodup_append.mpr ⟨r.nd, by simp, fun b hb c hc => ?_⟩, fun m b o' e1 e2 => ?_, fun b m => ?_⟩
  · rw [List.mem_singleton.mp hc]
    exact fun z => hn (by rw [← z]; exact hb)
  · have e1 : (al.r ++ [p])[m]? = some b := e1
    by_cases hm : m < al.r.length
    · rw [List.getElem?_append_left hm] at e1
      rw [List.getElem?_append_left (by rw [← rl]; exact hm)] at e2
      exact (r.obj m b o' e1 e2).to (fun z => z.unhide hp) rfl
    · have e3 := (List.getElem?_eq_some_iff.mp e1).1
      rw [List.length_append, List.length_singleton] at e3
      have em : m = al.r.length := by omega
      subst em
      rw [List.getElem?_append_right (Nat.le_refl _), Nat.sub_self] at e1
      cases e1
      rw [rl, List.getElem?_append_right (Nat.le_refl _), Nat.sub_self] at e2
      cases e2
      exact q
  · obtain ⟨m1, m2⟩ := List.mem_filter.mp (show b ∈ al.x.filter _ from m)
    obtain ⟨z, u, hu⟩ := r.ex b m1
    refine ⟨fun w' => ?_, u, hu⟩
    rcases List.mem_append.mp (show b ∈ al.r ++ [p] from w') with w' | w'
    · exact z w'
    · exact of_decide_eq_true m2 (List.mem_singleton.mp w')
theorem Stp.hide {p : Addr} {u : HO} (hp : H p = none) : Stp al H (al.hide p) (upd H p u) :=
  ⟨⟨[], by simp [Al.hide]⟩, fun _ m => List.mem_cons_of_mem _ m, fun a m => (List.mem_cons.mp (show a ∈ p :: al.x from m)).elim (fun e => .inr (.inr (by rw [e]; exact hp))) .inl, fun b o e _ => same_upd hp b o e, fun _ m => .inl m⟩
/-- from a state where p was not there -/
theorem Stp.over {p : Addr} {o : HO} (s : Stp al H al' H') (hp : H p = none) : Stp al H al' (upd H' p o) :=
  ⟨s.pre, s.px1, s.px2, fun b u e hb => by rw [upd_ne (ne_of_none e hp)]; exact s.kp b u e hb, s.fr⟩
theorem Stp.drop {p : Addr} (s : Stp al H al' H') (hp : p ∉ al.x) : Stp al H (al'.drop p) H' :=
  ⟨s.pre, fun a m => List.mem_filter.mpr ⟨s.px1 a m, decide_eq_true fun e => hp (by rw [← e]; exact m)⟩, fun a m => s.px2 a (List.mem_filter.mp m).1, s.kp, s.fr⟩
theorem Stp.more {p : Addr} (s : Stp al H al' H') (hp : H p = none) (hx : p ∉ al.x) : Stp al H (al'.more p) H' := by
  obtain ⟨be, e⟩ := s.pre
  refine ⟨⟨be ++ [p], by show al'.r ++ [p] = _; rw [e, List.append_assoc]⟩, fun a m => List.mem_filter.mpr ⟨s.px1 a m, decide_eq_true fun e => hx (by rw [← e]; exact m)⟩, fun a m => s.px2 a (List.mem_filter.mp m).1, s.kp, fun a m => ?_⟩
  rcases List.mem_append.mp (show a ∈ al'.r ++ [p] from m) with m | m
  · exact s.fr a m
  · rw [List.mem_singleton.mp m]; exact .inr hp
end

/-! ### the slots -/
structure RS (K : PySem.W.Frag) (H : Hp) (al : Al) (sg : L2.St) (se : S) : Prop where
  len : sg.length = se.length
  at_ : ∀ (i : Nat) (d : D), se[i]? = some (some d) → ∃ v, sg[i]? = some (some v) ∧ RV K H al v d
section
variable {K : PySem.W.Frag} {cl : Nat → Option Addr} {H H' : Hp} {al al' : Al} {sg : L2.St} {se : S} {h : Hs}
theorem RS.stp (s : Stp al H al' H') (r : RS K H al sg se) : RS K H' al' sg se :=
  ⟨r.len, fun i d e => by
    obtain ⟨v, h1, h2⟩ := r.at_ i d e
    exact ⟨v, h1, h2.stp s⟩⟩
theorem RS.put (r : RS K H al sg se) {v : V} {d : D} (q : RV K H al v d) (i : Nat) : RS K H al (sg.set i (some v)) (se.set i (some d)) := by
  refine ⟨by rw [List.length_set, List.length_set]; exact r.len, fun j e hj => ?_⟩
  by_cases hij : i = j
  · subst hij
    have hl : i < se.length := by
      have := (List.getElem?_eq_some_iff.mp hj).1
      rw [List.length_set] at this
      exact this
    rw [List.getElem?_set_self hl] at hj
    cases hj
    exact ⟨v, List.getElem?_set_self (by rw [r.len]; exact hl), q⟩
  · rw [List.getElem?_set_ne hij] at hj ⊢
    exact r.at_ j e hj
theorem RS.to (vv : ∀ {v : V} {d : D}, RV K H al v d → RV K H' al' v d) (r : RS K H al sg se) : RS K H' al' sg se :=
  ⟨r.len, fun i d e => by
    obtain ⟨v, h1, h2⟩ := r.at_ i d e
    exact ⟨v, h1, vv h2⟩⟩
/-- the own slots of a block forgotten -/
def wipeD (se : S) : List Nat → S
  | [] => se
  | v :: vs => (wipeD se vs).set v none
theorem RS.wipe (r : RS K H al sg se) : ∀ vs : List Nat, RS K H al (wipe sg vs) (wipeD se vs)
  | [] => r
  | v :: vs => by
    have q := RS.wipe r vs
    refine ⟨by show (List.set _ _ _).length = (List.set _ _ _).length; rw [List.length_set, List.length_set]; exact q.len, fun j e hj => ?_⟩
    have hj : ((wipeD se vs).set v none)[j]? = some (some e) := hj
    show ∃ w, ((L2.wipe sg vs).set v none)[j]? = some (some w) ∧ _
    by_cases hij : v = j
    · subst hij
      have hl : v < (wipeD se vs).length := by
        have := (List.getElem?_eq_some_iff.mp hj).1
        rw [List.length_set] at this
        exact this
      rw [List.getElem?_set_self hl] at hj
      cases hj
    · rw [List.getElem?_set_ne hij] at hj ⊢
      exact q.at_ j e hj
/-- the whole state -/
structure Stt (K : PySem.W.Frag) (cl : Nat → Option Addr) (sg : L2.St) (H : Hp) (al : Al) (se : S) (h : Hs) : Prop where
  rs : RS K H al sg se
  rp : Rp K cl H al h
/-- what is wanted behind an expression of the value d and the heap h -/
def FinE (K : PySem.W.Frag) (cl : Nat → Option Addr) (al : Al) (H : Hp) (h : Hs) (d : D) (Q : VK) : Prop :=
  ∀ al' H' v, Stp al H al' H' → Rp K cl H' al' h → RV K H' al' v d → Q v H'
theorem FinE.stp {d : D} {Q : VK} (f : FinE K cl al H h d Q) (s : Stp al H al' H') : FinE K cl al' H' h d Q := fun al2 H2 v s2 r q => f al2 H2 v (s.trans s2) r q
abbrev ME := S → Hs → Option (D × Hs)
/-- a function of the slots and the heap as a reading -/
def LE (K : PySem.W.Frag) (cl : Nat → Option Addr) (m : ME) : TE := fun sg H Q => ∃ al se h d h', Stt K cl sg H al se h ∧ m se h = some (d, h') ∧ FinE K cl al H h' d Q
theorem LE.use {m : ME} {Q : VK} {d : D} {h' : Hs} (st : Stt K cl sg H al se h) (e : m se h = some (d, h'))
    (k : ∀ al1 H1 v, Stp al H al1 H1 → Stt K cl sg H1 al1 se h' → RV K H1 al1 v d → Q v H1) : LE K cl m sg H Q :=
  ⟨al, se, h, d, h', st, e, fun al' H' v s r q => k al' H' v s ⟨st.rs.stp s, r⟩ q⟩
theorem Stt.grow (st : Stt K cl sg H al se h) (s : ∀ b o, H b = some o → H' b = some o) : Stt K cl sg H' al se h := ⟨st.rs.stp (Stp.grow s), st.rp.grow s⟩
theorem PE.imp {X : Cx} {e : Expr} {t t' : TE} (p : PE X e t) (i : ∀ sg H Q, t' sg H Q → t sg H Q) : PE X e t' := ⟨fun pins s sg H Q I h => p.run pins s sg H Q I (i sg H Q h)⟩
theorem PT.imp {X : Cx} {e : Expr} {t t' : TT} (p : PT X e t) (i : ∀ sg H Q, t' sg H Q → t sg H Q) : PT X e t' := ⟨fun pins s sg H Q I h => p.run pins s sg H Q I (i sg H Q h)⟩
theorem PW.imp {X : Cx} {e : Expr} {t t' : TT} (p : PW X e t) (i : ∀ sg H Q, t' sg H Q → t sg H Q) : PW X e t' := ⟨fun wh pins s sg H Q I h => p.run wh pins s sg H Q I (i sg H Q h)⟩
theorem PA.imp {X : Cx} {e : List Expr} {t t' : TA} (p : PA X e t) (i : ∀ sg H Q, t' sg H Q → t sg H Q) : PA X e t' := ⟨fun pos pins s sg H Q I h => p.run pos pins s sg H Q I (i sg H Q h)⟩
theorem PS.imp {X : Cx} {e : Stmt} {t t' : TS} (p : PS X e t) (i : ∀ E sg H, t' E sg H → t E sg H) : PS X e t' := ⟨fun pins s sg H E I h => p.run pins s sg H E I (i E sg H h)⟩
theorem PSs.imp {X : Cx} {e : List Stmt} {t t' : TS} (p : PSs X e t) (i : ∀ E sg H, t' E sg H → t E sg H) : PSs X e t' := ⟨fun pins s sg H E I h => p.run pins s sg H E I (i E sg H h)⟩
theorem PI.imp {X : Cx} {tg e : Expr} {t t' : TI} (p : PI X tg e t) (i : ∀ sg H R, t' sg H R → t sg H R) : PI X tg e t' := ⟨fun pins s sg H R I h => p.run pins s sg H R I (i sg H R h)⟩
theorem PG.imp {X : Cx} {tg : Expr} {t t' : TG} (p : PG X tg t) (i : ∀ v sg H Q, t' v sg H Q → t v sg H Q) : PG X tg t' := ⟨fun pins s sg H v u Q I r h => p.run pins s sg H v u Q I r (i v sg H Q h)⟩
/-- a new tuple -/
theorem RV.newTup {p : Addr} {vs : List V} {ds : List D} (r : RVs K H al vs ds) (rp : Rp K cl H al h) (hp : H p = none) : RV K (upd H p (.tup vs)) al (.ref p) (.tup ds) :=
  .tup (.inl ⟨upd_same, rp.free hp⟩) (r.stp (Stp.grow (same_upd hp)))
theorem RV.newLst {p : Addr} {vs : List V} {ds : List D} (r : RVs K H al vs ds) (rp : Rp K cl H al h) (hp : H p = none) : RV K (upd H p (.lst vs)) al (.ref p) (.lst ds) :=
  .lst upd_same (rp.free hp) (r.stp (Stp.grow (same_upd hp)))
theorem FinE.tup {vs : List V} {ds : List D} {Q : VK} (f : FinE K cl al H h (.tup ds) Q) (rp : Rp K cl H al h) (r : RVs K H al vs ds) : ∀ p, H p = none → Q (.ref p) (upd H p (.tup vs)) := fun p hp =>
  f al _ _ (Stp.grow (same_upd hp)) (rp.grow (same_upd hp)) (RV.newTup r rp hp)
theorem FinE.lst {vs : List V} {ds : List D} {Q : VK} (f : FinE K cl al H h (.lst ds) Q) (rp : Rp K cl H al h) (r : RVs K H al vs ds) : ∀ p, H p = none → Q (.ref p) (upd H p (.lst vs)) := fun p hp =>
  f al _ _ (Stp.grow (same_upd hp)) (rp.grow (same_upd hp)) (RV.newLst r rp hp)
theorem FinE.now {d : D} {v : V} {Q : VK} (f : FinE K cl al H h d Q) (rp : Rp K cl H al h) (r : RV K H al v d) : Q v H := f al H v (Stp.refl _ _) rp r
end

/-! ### dicts, by keys -/
section
variable {κ : Type} [DecidableEq κ]
def valD (kvs : List (κ × D)) (k : κ) : Option D := (kvs.find? fun kv => decide (kv.1 = k)).map (·.2)
def putD (kvs : List (κ × D)) (k : κ) (v : D) : List (κ × D) :=
  if (kvs.any fun kv => decide (kv.1 = k)) = true then kvs.map (fun kv => if kv.1 = k then (kv.1, v) else kv) else kvs ++ [(k, v)]
variable {K : PySem.W.Frag} {H : Hp} {al : Al}
theorem RKs.length : ∀ {ws : List (κ × V)} {kvs : List (κ × D)}, RKs K H al ws kvs → ws.length = kvs.length
  | _, _, .nil => rfl
  | _, _, .cons _ t => congrArg (· + 1) t.length
theorem RKs.val {k : κ} : ∀ {ws : List (κ × V)} {kvs : List (κ × D)}, RKs K H al ws kvs → (valD kvs k = none ∧ valV ws k = none) ∨ ∃ d v, valD kvs k = some d ∧ valV ws k = some v ∧ RV K H al v d
  | _, _, .nil => .inl ⟨rfl, rfl⟩
  | _, _, .cons (k := k') (v := v) (vs := vs) (d := d) (ds := ds) r t => by
    by_cases e : k' = k
    · refine .inr ⟨d, v, ?_, ?_, r⟩
      · simp [valD, List.find?_cons, e]
      · simp [valV, List.find?_cons, e]
    · have h1 : valD ((k', d) :: ds) k = valD ds k := by simp [valD, List.find?_cons, e]
      have h2 : valV ((k', v) :: vs) k = valV vs k := by simp [valV, List.find?_cons, e]
      rw [h1, h2]
      exact t.val
theorem RKs.any {k : κ} : ∀ {ws : List (κ × V)} {kvs : List (κ × D)}, RKs K H al ws kvs → (ws.any fun kv => decide (kv.1 = k)) = (kvs.any fun kv => decide (kv.1 = k))
  | _, _, .nil => rfl
  | _, _, .cons r t => by
    rw [List.any_cons, List.any_cons, t.any]
theorem RKs.mapPut {k : κ} {v : V} {d : D} (q : RV K H al v d) : ∀ {ws : List (κ × V)} {kvs : List (κ × D)}, RKs K H al ws kvs → RKs K H al (ws.map fun kv => if kv.1 = k then (kv.1, v) else kv) (kvs.map fun kv => if kv.1 = k then (kv.1, d) else kv)
  | _, _, .nil => .nil
  | _, _, .cons (k := k') r t => by
    rw [List.map_cons, List.map_cons]
    by_cases e : k' = k
    · rw [if_pos e, if_pos e]
      exact .cons q (RKs.mapPut q t)
    · rw [if_neg e, if_neg e]
      exact .cons r (RKs.mapPut q t)
theorem RKs.snoc {k : κ} {v : V} {d : D} (q : RV K H al v d) : ∀ {ws : List (κ × V)} {kvs : List (κ × D)}, RKs K H al ws kvs → RKs K H al (ws ++ [(k, v)]) (kvs ++ [(k, d)])
  | _, _, .nil => .cons q .nil
  | _, _, .cons r t => .cons r (RKs.snoc q t)
theorem RKs.put {k : κ} {v : V} {d : D} {ws : List (κ × V)} {kvs : List (κ × D)} (q : RV K H al v d) (r : RKs K H al ws kvs) : RKs K H al (putK ws k v) (putD kvs k d) := by
  unfold putK putD
  rw [r.any]
  split
  · exact r.mapPut q
  · exact r.snoc q
end
/-- the fields of an instance -/
def putFD (f : Str) (v : D) : List (Str × D) → List (Str × D)
  | [] => [(f, v)]
  | (g, x) :: r => if g = f then (g, v) :: r else (g, x) :: putFD f v r
section
variable {K : PySem.W.Frag} {H : Hp} {al : Al}
theorem RKs.putF {f : Str} {v : V} {d : D} (q : RV K H al v d) : ∀ {ws : List (Str × V)} {kvs : List (Str × D)}, RKs K H al ws kvs → RKs K H al (L2.putF f v ws) (putFD f d kvs)
  | _, _, .nil => .cons q .nil
  | _, _, .cons (k := k') r t => by
    unfold L2.putF putFD
    by_cases e : k' = f
    · rw [if_pos e, if_pos e]
      exact .cons q t
    · rw [if_neg e, if_neg e]
      exact .cons r (RKs.putF q t)
theorem RKs.look {f : Str} : ∀ {ws : List (Str × V)} {kvs : List (Str × D)}, RKs K H al ws kvs → (kvs.lookup f = none ∧ ws.lookup f = none) ∨ ∃ d v, kvs.lookup f = some d ∧ ws.lookup f = some v ∧ RV K H al v d
  | _, _, .nil => .inl ⟨rfl, rfl⟩
  | _, _, .cons (k := k') (v := v) (d := d) r t => by
    cases e : f == k' with
    | true =>
      refine .inr ⟨d, v, ?_, ?_, r⟩
      · rw [List.lookup_cons, e]
      · rw [List.lookup_cons, e]
    | false =>
      rw [List.lookup_cons, List.lookup_cons, e]
      exact t.look
end
end Cr
/-! Core 2: the core language, its evaluator, the checker of a core text against a given tree. -/
namespace Cr
open PySem PySem.Spec PyProof.Rows L2

/-! ### values -/
mutual
def noref : D → Bool
  | .ref _ => false
  | .scr _ => false
  | .tup xs => norefs xs
  | .lst xs => norefs xs
  | _ => true
def norefs : List D → Bool
  | [] => true
  | x :: xs => noref x && norefs xs
end
mutual
def DP : D → PyData
  | .non => .none
  | .bl b => .bool b
  | .int i => .int i
  | .str x => .str x
  | .tup xs => .tuple (DPs xs)
  | .lst xs => .list (DPs xs)
  | .ref _ => .dict []
  | .scr _ => .dict []
def DPs : List D → List PyData
  | [] => []
  | x :: xs => DP x :: DPs xs
end
def okD (x : D) : Bool := noref x && SeqAt.shaped (DP x)
mutual
/-- == -/
def deq : D → D → Bool
  | .non, .non => true
  | .bl a, .bl b => a == b
  | .bl a, .int j => (if a then 1 else 0) == j
  | .int i, .bl b => i == (if b then 1 else 0)
  | .int i, .int j => i == j
  | .str x, .str y => x == y
  | .lst xs, .lst ys => deqs xs ys
  | .tup xs, .tup ys => deqs xs ys
  | _, _ => false
def deqs : List D → List D → Bool
  | [], [] => true
  | x :: xs, y :: ys => deq x y && deqs xs ys
  | _, _ => false
end
def flat : D → Bool
  | .non => true | .bl _ => true | .int _ => true | .str _ => true | _ => false
/-- the items of a list or tuple -/
def seqOf (h : Hs) : D → Option (List D)
  | .tup xs => some xs
  | .lst xs => some xs
  | .scr ns => some (ns.map D.int)
  | .ref n => match h[n]? with | some (.lst xs) => some xs | _ => none
  | _ => none
/-- a changed list as it stands -/
def res (h : Hs) : D → D
  | .ref n => match h[n]? with | some (.lst xs) => .lst xs | _ => .ref n
  | d => d
def eqD (h : Hs) (x y : D) : Option Bool := match res h x, res h y with
  | .str a, .str b => some (decide (a = b))
  | a, b => if okD a && okD b then some (deq a b) else none
def memD (xs : List D) (x : D) : Bool := xs.any fun y => deq y x
/-- keys of a dict -/
def keyD : D → Option L2.Key
  | .int i => some (.inl i)
  | .str x => some (.inr x)
  | _ => none
def keysD : List D → Option (List L2.Key)
  | [] => some []
  | x :: xs => (keyD x).bind fun k => (keysD xs).map (k :: ·)
/-- what the dict n holds at y -/
def dgetD (h : Hs) (n : Nat) (y : D) : Option (Option D) := match h[n]? with
  | some (.dK kvs) => (keyD y).map (valD kvs)
  | some (.dT kvs) => match y with
    | .tup ds => (keysD ds).map (valD kvs)
    | _ => none
  | _ => none
/-- the heap behind n[y] = v -/
def dputD (h : Hs) (n : Nat) (y v : D) : Option Hs := match h[n]? with
  | some (.dK kvs) => (keyD y).bind fun k => if kvs.length < sizeLine then some (h.set n (.dK (putD kvs k v))) else none
  | some (.dT kvs) => match y with
    | .tup ds => (keysD ds).bind fun k => if kvs.length < sizeLine then some (h.set n (.dT (putD kvs k v))) else none
    | _ => none
  | _ => none
def inD (h : Hs) (x y : D) : Option Bool := match y with
  | .ref n => match h[n]? with
    | some (.lst ys) => if (flat x && ys.all flat) || (okD x && okD (.lst ys)) then some (memD ys x) else none
    | _ => (dgetD h n x).map (·.isSome)
  | .lst ys => if (flat x && ys.all flat) || (okD x && okD (.lst ys)) then some (memD ys x) else none
  | .tup ys => if flat x && ys.all flat then some (memD ys x) else none
  | _ => none
def isN : D → Bool
  | .non => true
  | _ => false
def cmpD (op : CmpOp) (h : Hs) (x y : D) : Option Bool := match op with
  | .Eq => eqD h x y
  | .NotEq => (eqD h x y).map (!·)
  | .Lt => match x, y with | .int i, .int j => some (decide (i < j)) | _, _ => none
  | .LtE => match x, y with | .int i, .int j => some (decide (i ≤ j)) | _, _ => none
  | .Gt => match x, y with | .int i, .int j => some (decide (j < i)) | _, _ => none
  | .GtE => match x, y with | .int i, .int j => some (decide (j ≤ i)) | _, _ => none
  | .In => inD h x y
  | .NotIn => (inD h x y).map (!·)
  | .Is => match y with | .non => some (isN x) | _ => none
  | .IsNot => match y with | .non => some (!isN x) | _ => none
/-- a op b -/
def binD (op : Operator) (x y : D) : Option D := match op, x, y with
  | .Add, .int i, .int j => some (.int (i + j))
  | .Add, .str i, .str j => if i.length + j.length ≤ sizeLine then some (.str (i ++ j)) else none
  | .Add, .tup xs, .tup ys => if xs.length + ys.length ≤ sizeLine then some (.tup (xs ++ ys)) else none
  | .Sub, .int i, .int j => some (.int (i - j))
  | .Mult, .int i, .int j => if i.natAbs < 2 ^ 64 ∨ j.natAbs < 2 ^ 64 ∨ i.natAbs.log2 + j.natAbs.log2 < 1000000 then some (.int (i * j)) else none
  | .FloorDiv, .int i, .int j => if 0 < j ∧ j.natAbs.log2 < 9000 then some (.int (i / j)) else none
  | .Mod, .int i, .int j => if 0 < j then some (.int (i % j)) else none
  | .Pow, .int i, .int j => if 0 ≤ j ∧ j ≤ 1000000 ∧ i.natAbs < 2 ^ 64 then some (.int (i ^ j.toNat)) else none
  | _, _, _ => none
def truD (h : Hs) : D → Option Bool
  | .non => some false
  | .bl b => some b
  | .int i => some (i != 0)
  | .str y => if y.length ≤ sizeLine then some ((y.length : Int) != 0) else none
  | .tup xs => some (!xs.isEmpty)
  | .lst xs => some (!xs.isEmpty)
  | .scr xs => some (!xs.isEmpty)
  | .ref n => match h[n]? with | some (.lst xs) => some (!xs.isEmpty) | some (.dK xs) => some (!xs.isEmpty) | _ => none
/-- a[i] -/
def idxD (h : Hs) (x y : D) : Option D := match x, y with
  | .tup xs, .int i => atI xs i
  | .lst xs, .int i => atI xs i
  | .scr ns, .int i => (atI ns i).map D.int
  | .str z, .int i => if z.length ≤ sizeLine then (atI z.cps.toList i).map fun c => .str ⟨#[c]⟩ else none
  | .ref n, y => match h[n]? with
    | some (.lst xs) => match y with | .int i => atI xs i | _ => none
    | _ => (dgetD h n y).bind id
  | _, _ => none
/-- the items of xs[lo:hi] -/
def cutD {α : Type} (xs : List α) (lo hi : Option Int) : List α := (xs.drop (HT.sIx xs.length 0 lo)).take (HT.sIx xs.length xs.length hi - HT.sIx xs.length 0 lo)
/-- the items of xs[lo::st] -/
def pickD {α : Type} (xs : List α) (lo st : Int) : List α :=
  (sliceRange (sliceBounds (some lo) none (some st) xs.length).1 (sliceBounds (some lo) none (some st) xs.length).2.1 (sliceBounds (some lo) none (some st) xs.length).2.2).filterMap (xs[·]?)
def intsOf : List D → Option (List Int)
  | [] => some []
  | .int i :: r => (intsOf r).map (i :: ·)
  | _ => none
def blsOf : List D → Option (List Bool)
  | [] => some []
  | .bl i :: r => (blsOf r).map (i :: ·)
  | _ => none
/-- built-in functions of values -/
inductive Bl where
  | len | int | tuple | sum | any | all | abs | min | max | gcd
  deriving DecidableEq
def lenD (h : Hs) : List D → Option D
  | [.str z] => if z.length ≤ sizeLine then some (.int z.length) else none
  | [d] => (seqOf h d).map fun xs => .int xs.length
  | _ => none
def intD : List D → Option D
  | [.int i] => some (.int i)
  | [.bl k] => some (.int (if k then 1 else 0))
  | _ => none
/-- a list, changed or not -/
def lstOf (h : Hs) : D → Option (List D)
  | .lst xs => some xs
  | .ref n => match h[n]? with | some (.lst xs) => some xs | _ => none
  | _ => none
def tupleD (h : Hs) : List D → Option D
  | [.tup xs] => some (.tup xs)
  | [d] => (lstOf h d).map D.tup
  | _ => none
def sumD (h : Hs) : List D → Option D
  | [d] => (lstOf h d).bind fun xs => (intsOf xs).map fun ns => .int ns.sum
  | _ => none
def anyD (h : Hs) : List D → Option D
  | [d] => (lstOf h d).bind fun xs => (blsOf xs).map fun bs => .bl (bs.any id)
  | _ => none
def allD (h : Hs) : List D → Option D
  | [d] => (lstOf h d).bind fun xs => (blsOf xs).map fun bs => .bl (bs.all id)
  | _ => none
def absD : List D → Option D
  | [.int i] => some (.int (if i < 0 then -i else i))
  | _ => none
def minD : List D → Option D
  | [.int i, .int j] => some (.int (if j < i then j else i))
  | _ => none
def maxD : List D → Option D
  | [.int i, .int j] => some (.int (if j > i then j else i))
  | _ => none
def gcdD : List D → Option D
  | [.int i, .int j] => some (.int ((Nat.gcd i.natAbs j.natAbs : Nat) : Int))
  | _ => none
def bltD (b : Bl) (h : Hs) (ds : List D) : Option D := match b with
  | .len => lenD h ds
  | .int => intD ds
  | .tuple => tupleD h ds
  | .sum => sumD h ds
  | .any => anyD h ds
  | .all => allD h ds
  | .abs => absD ds
  | .min => minD ds
  | .max => maxD ds
  | .gcd => gcdD ds
/-- the type of a value, as isinstance asks -/
inductive Ty where
  | int | bool | tuple | str
  deriving DecidableEq
def isiD (t : Ty) : D → Option Bool
  | .non => some false
  | .bl _ => some (match t with | .int => true | .bool => true | _ => false)
  | .int _ => some (match t with | .int => true | _ => false)
  | .str _ => some (match t with | .str => true | _ => false)
  | .tup _ => some (match t with | .tuple => true | _ => false)
  | _ => none
/-- methods of lists -/
inductive Mt where
  | append | extend | pop | index
  deriving DecidableEq
def findD (x : D) : Nat → List D → Option Nat
  | _, [] => none
  | k, y :: ys => if deq y x then some k else findD x (k + 1) ys
def appendD (h : Hs) (x : D) : List D → Option (D × Hs)
  | [d] => match x with
    | .ref n => match h[n]? with
      | some (.lst xs) => if xs.length < sizeLine then some (.non, h.set n (.lst (xs ++ [d]))) else none
      | _ => none
    | _ => none
  | _ => none
def extendD (h : Hs) (x : D) : List D → Option (D × Hs)
  | [d] => match x with
    | .ref n => match h[n]? with
      | some (.lst xs) => (lstOf h d).bind fun ys => if xs.length + ys.length ≤ sizeLine then some (.non, h.set n (.lst (xs ++ ys))) else none
      | _ => none
    | _ => none
  | _ => none
def popD (h : Hs) (x : D) : List D → Option (D × Hs)
  | [.int 0] => match x with
    | .ref n => match h[n]? with
      | some (.lst (x :: xs)) => some (x, h.set n (.lst xs))
      | _ => none
    | _ => none
  | _ => none
def indexD (h : Hs) (x : D) : List D → Option (D × Hs)
  | [d] => (lstOf h x).bind fun xs => if (flat d && xs.all flat) || (okD d && okD (.lst xs)) then (findD d 0 xs).map fun k => (.int (k : Nat), h) else none
  | _ => none
def mthD (m : Mt) (h : Hs) (x : D) (ds : List D) : Option (D × Hs) := match m with
  | .append => appendD h x ds
  | .extend => extendD h x ds
  | .pop => popD h x ds
  | .index => indexD h x ds

/-! ### the core language -/
inductive Tg where
  | nm (i : Nat) | tp (is : List Nat)
mutual
inductive CE where
  | var (i : Nat) | cst (d : D) | glb (i : Nat)
  | bin (op : Operator) (a b : CE) | neg (a : CE)
  | cmp (op : CmpOp) (a b : CE)
  | andv (a b : CE) | orv (a b : CE) | notv (a : CE)
  | ife (t : CT) (a b : CE)
  | tup (es : CA)
  | pl (f : CF) | bx (f : CF)
  | idx (a i : CE)
  | slt (a : CE) (lo hi : CO)
  | call (f : Nat) (es : CA)
  | blt (b : Bl) (es : CA)
  | isi (a : CE) (t : Ty)
  | mth (m : Mt) (a : CE) (es : CA)
  | fld (a : CE) (f : Str)
  | new (C : Nat)
  | mcl (C : Nat) (m : Str) (f : Nat) (a : CE) (es : CA)
  | dnK | dnT | dlt (kvs : List (Int × Int))
inductive CA where
  | nil | cons (e : CE) (es : CA)
inductive CO where
  | no | yes (e : CE)
inductive CT where
  | tru (e : CE) | cmp (op : CmpOp) (a b : CE) | and (a b : CT) | or (a b : CT) | not (a : CT)
inductive CC where
  | no | yes (t : CT)
inductive CI where
  | seq (e : CE) | rng1 (e : CE) | rng2 (a b : CE) | enum (e : CE)
/-- new lists -/
inductive CF where
  | disp (es : CA)
  | comp (own : List (Str × Nat)) (tg : Tg) (it : CI) (cn : CC) (elt : CE)
  | lst (e : CE) | srt (e : CE) | lrg (e : CE)
  | sll (a : CE) (lo hi : CO)
  | slk (a : CE) (lo st : Int)
  | cat (a b : CE)
end
mutual
inductive CS where
  | set (i : Nat) (e : CE) | setT (is : List Nat) (e : CE)
  | sub (o i e : CE)
  | fset (o : CE) (f : Str) (e : CE)
  | aug (i : Nat) (op : Operator) (e : CE)
  | ret (e : CE) | retN | exp (e : CE)
  | ife (t : CT) (a b : CB)
  | for_ (tg : Tg) (it : CI) (b : CB)
  | whl (t : CT) (b : CB)
  | brk | pss | nev
inductive CB where
  | nil | cons (s : CS) (b : CB)
end

/-! ### the evaluator -/
structure Cn where
  cf : Nat → List D → Hs → Option (D × Hs)
  G : Nat → Option D
  /-- one call deeper -/
  cf1 : Nat → List D → Hs → Option (D × Hs)
  /-- the fields of a class, its maker -/
  fok : Nat → Str → Bool
  ini : Nat → Option Nat
/-- an instance's field -/
def fldD (fok : Nat → Str → Bool) (h : Hs) (f : Str) : D → Option D
  | .ref n => match h[n]? with
    | some (.ins C fs) => if fok C f then fs.lookup f else none
    | _ => none
  | _ => none
def fputD (fok : Nat → Str → Bool) (h : Hs) (f : Str) (v : D) : D → Option Hs
  | .ref n => match h[n]? with
    | some (.ins C fs) => if fok C f && decide (fs.length < 1000) then some (h.set n (.ins C (putFD f v fs))) else none
    | _ => none
  | _ => none
/-- is it an instance of C without that field -/
def isIns (h : Hs) (C : Nat) (m : Str) : D → Bool
  | .ref n => match h[n]? with
    | some (.ins C' fs) => decide (C' = C) && (fs.lookup m).isNone
    | _ => false
  | _ => false
def dltD (kvs : List (Int × Int)) : List (L2.Key × D) := kvs.foldl (fun acc kv => putD acc (.inl kv.1) (.int kv.2)) []
/-- what a loop walks: its items, and that they stand -/
structure IT where
  xs : List D
  st : Hs → Prop
/-- values put into slots -/
def putS : List Nat → List D → S → S
  | i :: is, d :: ds, se => putS is ds (se.set i (some d))
  | _, _, se => se
/-- a target takes a value -/
def putT : Tg → D → S → Option S
  | .nm i, d, se => some (se.set i (some d))
  | .tp is, .tup ds, se => if ds.length = is.length then some (putS is ds se) else none
  | _, _, _ => none
open Classical in
/-- a comprehension's turns: D's and the heap -/
noncomputable def lcD (st : Hs → Prop) (tg : Tg) (se : S) (tc : S → Hs → Option (Bool × Hs)) (te : ME) : List D → Hs → Option (List D × Hs)
  | [], h => if st h then some ([], h) else none
  | x :: xs, h => if st h then
      (putT tg x se).bind fun s1 => (tc s1 h).bind fun p => match p.1 with
        | true => (te s1 p.2).bind fun q => (lcD st tg se tc te xs q.2).map fun r => (q.1 :: r.1, r.2)
        | false => lcD st tg se tc te xs p.2
    else none
mutual
noncomputable def ev (c : Cn) : CE → ME
  | .var i => fun se h => match se[i]? with | some (some d) => some (d, h) | _ => none
  | .cst d => fun _ h => some (d, h)
  | .glb i => fun _ h => (c.G i).map fun d => (d, h)
  | .bin op a b => fun se h => (ev c a se h).bind fun p => (ev c b se p.2).bind fun q => (binD op p.1 q.1).map fun d => (d, q.2)
  | .neg a => fun se h => (ev c a se h).bind fun p => match p.1 with | .int i => some (.int (-i), p.2) | _ => none
  | .cmp op a b => fun se h => (ev c a se h).bind fun p => (ev c b se p.2).bind fun q => (cmpD op q.2 p.1 q.1).map fun k => (.bl k, q.2)
  | .andv a b => fun se h => (ev c a se h).bind fun p => (truD p.2 p.1).bind fun k => match k with | true => ev c b se p.2 | false => some p
  | .orv a b => fun se h => (ev c a se h).bind fun p => (truD p.2 p.1).bind fun k => match k with | true => some p | false => ev c b se p.2
  | .notv a => fun se h => (ev c a se h).bind fun p => (truD p.2 p.1).map fun k => (.bl (!k), p.2)
  | .ife t a b => fun se h => (evT c t se h).bind fun p => match p.1 with | true => ev c a se p.2 | false => ev c b se p.2
  | .tup es => fun se h => (evA c es se h).bind fun p => if p.1.length ≤ sizeLine then some (.tup p.1, p.2) else none
  | .pl f => fun se h => (evF c f se h).map fun p => (.lst p.1, p.2)
  | .bx f => fun se h => (evF c f se h).map fun p => (.ref p.2.length, p.2 ++ [.lst p.1])
  | .idx a b => fun se h => (ev c a se h).bind fun p => (ev c b se p.2).bind fun q => (idxD q.2 p.1 q.1).map fun d => (d, q.2)
  | .slt a lo hi => fun se h => (ev c a se h).bind fun p => (evO c lo se p.2).bind fun q => (evO c hi se q.2).bind fun r => match p.1 with
      | .tup xs => some (.tup (cutD xs q.1 r.1), r.2)
      | _ => none
  | .call f es => fun se h => (evA c es se h).bind fun p => c.cf f p.1 p.2
  | .blt b es => fun se h => (evA c es se h).bind fun p => (bltD b p.2 p.1).map fun d => (d, p.2)
  | .isi a t => fun se h => (ev c a se h).bind fun p => (isiD t p.1).map fun k => (.bl k, p.2)
  | .mth m a es => fun se h => (ev c a se h).bind fun p => (lstOf p.2 p.1).bind fun _ => (evA c es se p.2).bind fun q => mthD m q.2 p.1 q.1
  | .fld a f => fun se h => (ev c a se h).bind fun p => (fldD c.fok p.2 f p.1).map fun d => (d, p.2)
  | .new C => fun _ h => (c.ini C).bind fun f => (c.cf1 f [.ref h.length] (h ++ [.ins C []])).bind fun p => match p.1 with
      | .non => some (.ref h.length, p.2)
      | _ => none
  | .mcl C m f a es => fun se h => (ev c a se h).bind fun p => if isIns p.2 C m p.1 then (evA c es se p.2).bind fun q => c.cf f (p.1 :: q.1) q.2 else none
  | .dnK => fun _ h => some (.ref h.length, h ++ [.dK []])
  | .dnT => fun _ h => some (.ref h.length, h ++ [.dT []])
  | .dlt kvs => fun _ h => some (.ref h.length, h ++ [.dK (dltD kvs)])
noncomputable def evA (c : Cn) : CA → S → Hs → Option (List D × Hs)
  | .nil => fun _ h => some ([], h)
  | .cons e es => fun se h => (ev c e se h).bind fun p => (evA c es se p.2).map fun q => (p.1 :: q.1, q.2)
noncomputable def evO (c : Cn) : CO → S → Hs → Option (Option Int × Hs)
  | .no => fun _ h => some (none, h)
  | .yes e => fun se h => (ev c e se h).bind fun p => match p.1 with | .int i => some (some i, p.2) | _ => none
noncomputable def evT (c : Cn) : CT → S → Hs → Option (Bool × Hs)
  | .tru e => fun se h => (ev c e se h).bind fun p => (truD p.2 p.1).map fun k => (k, p.2)
  | .cmp op a b => fun se h => (ev c a se h).bind fun p => (ev c b se p.2).bind fun q => (cmpD op q.2 p.1 q.1).map fun k => (k, q.2)
  | .and a b => fun se h => (evT c a se h).bind fun p => match p.1 with | true => evT c b se p.2 | false => some (false, p.2)
  | .or a b => fun se h => (evT c a se h).bind fun p => match p.1 with | true => some (true, p.2) | false => evT c b se p.2
  | .not a => fun se h => (evT c a se h).map fun p => (!p.1, p.2)
noncomputable def evC (c : Cn) : CC → S → Hs → Option (Bool × Hs)
  | .no => fun _ h => some (true, h)
  | .yes t => evT c t
noncomputable def evI (c : Cn) : CI → S → Hs → Option (IT × Hs)
  | .seq e => fun se h => (ev c e se h).bind fun p => match p.1 with
      | .tup xs => some (⟨xs, fun _ => True⟩, p.2)
      | .lst xs => some (⟨xs, fun _ => True⟩, p.2)
      | .ref n => match p.2[n]? with
        | some (.lst xs) => some (⟨xs, fun h => h[n]? = some (.lst xs)⟩, p.2)
        | _ => none
      | _ => none
  | .rng1 e => fun se h => (ev c e se h).bind fun p => match p.1 with
      | .int j => if -(2 ^ 62) ≤ j ∧ j < 2 ^ 62 then some (⟨(List.range j.toNat).map fun (k : Nat) => D.int (0 + (k : Int)), fun _ => True⟩, p.2) else none
      | _ => none
  | .rng2 a b => fun se h => (ev c a se h).bind fun p => (ev c b se p.2).bind fun q => match p.1, q.1 with
      | .int i, .int j => if -(2 ^ 62) ≤ i ∧ i < 2 ^ 62 ∧ -(2 ^ 62) ≤ j ∧ j < 2 ^ 62 then some (⟨(List.range (j - i).toNat).map fun (k : Nat) => D.int (i + (k : Int)), fun _ => True⟩, q.2) else none
      | _, _ => none
  | .enum e => fun se h => (ev c e se h).bind fun p => match p.1 with
      | .lst xs => some (⟨xs.mapIdx fun k x => D.tup [.int (k : Nat), x], fun _ => True⟩, p.2)
      | .ref n => match p.2[n]? with
        | some (.lst xs) => some (⟨xs.mapIdx fun k x => D.tup [.int (k : Nat), x], fun h => h[n]? = some (.lst xs)⟩, p.2)
        | _ => none
      | _ => none
noncomputable def evF (c : Cn) : CF → S → Hs → Option (List D × Hs)
  | .disp es => fun se h => (evA c es se h).bind fun p => if p.1.length ≤ sizeLine then some p else none
  | .comp own tg it cn elt => fun se h => (evI c it se h).bind fun p =>
      if p.1.xs.length ≤ sizeLine then lcD p.1.st tg (wipeD se (own.map (·.2))) (evC c cn) (ev c elt) p.1.xs p.2 else none
  | .lst e => fun se h => (ev c e se h).bind fun p => match p.1 with
      | .scr _ => none
      | d => (seqOf p.2 d).map fun xs => (xs, p.2)
  | .lrg e => fun se h => (ev c e se h).bind fun p => match p.1 with
      | .int j => if -(2 ^ 62) ≤ j ∧ j ≤ 16777216 then some ((List.range j.toNat).map fun (k : Nat) => D.int (0 + (k : Int)), p.2) else none
      | _ => none
  | .srt e => fun se h => (ev c e se h).bind fun p => match p.1 with
      | .scr _ => none
      | .tup _ => none
      | d => (seqOf p.2 d).bind fun xs => (intsOf xs).map fun ns => ((ns.mergeSort (fun a b => decide (a ≤ b))).map D.int, p.2)
  | .sll a lo hi => fun se h => (ev c a se h).bind fun p => (evO c lo se p.2).bind fun q => (evO c hi se q.2).bind fun r => match p.1 with
      | .lst xs => some (cutD xs q.1 r.1, r.2)
      | .ref n => match r.2[n]? with | some (.lst xs) => some (cutD xs q.1 r.1, r.2) | _ => none
      | _ => none
  | .slk a lo st => fun se h => (ev c a se h).bind fun p => match p.1 with
      | .lst xs => some (pickD xs lo st, p.2)
      | .ref n => match p.2[n]? with | some (.lst xs) => some (pickD xs lo st, p.2) | _ => none
      | _ => none
  | .cat a b => fun se h => (ev c a se h).bind fun p => (ev c b se p.2).bind fun q => match res q.2 p.1, res q.2 q.1 with
      | .lst xs, .lst ys => if xs.length + ys.length ≤ sizeLine then some (xs ++ ys, q.2) else none
      | _, _ => none
end
/-- how a statement ends -/
inductive Fl where
  | nx | bk | ct | rt (d : D)
abbrev MS := S → Hs → Option (Fl × S × Hs)
open Classical in
noncomputable def forD (st : Hs → Prop) (tg : Tg) (b : MS) : List D → MS
  | [], se, h => if st h then some (.nx, se, h) else none
  | x :: xs, se, h => if st h then (putT tg x se).bind fun s1 => (b s1 h).bind fun r => match r.1 with
      | .nx => forD st tg b xs r.2.1 r.2.2
      | .ct => forD st tg b xs r.2.1 r.2.2
      | .bk => some (.nx, r.2)
      | .rt d => some (.rt d, r.2)
    else none
/-- n turns of a while at most -/
def whN (t : S → Hs → Option (Bool × Hs)) (b : MS) : Nat → MS
  | 0, _, _ => none
  | n + 1, se, h => (t se h).bind fun p => match p.1 with
    | false => some (.nx, se, p.2)
    | true => (b se p.2).bind fun r => match r.1 with
      | .nx => whN t b n r.2.1 r.2.2
      | .ct => whN t b n r.2.1 r.2.2
      | .bk => some (.nx, r.2)
      | .rt d => some (.rt d, r.2)
open Classical in
noncomputable def whD (t : S → Hs → Option (Bool × Hs)) (b : MS) : MS := fun se h => if e : ∃ n, (whN t b n se h).isSome = true then whN t b e.choose se h else none
/-- x op= y -/
def augD (op : Operator) (x y : D) : Option D := match op, x, y with
  | .Add, .int a, .int b => some (.int (a + b))
  | .Sub, .int a, .int b => some (.int (a - b))
  | _, _, _ => none
/-- o[i] = v -/
def setD (h : Hs) (o i v : D) : Option Hs := match o with
  | .ref n => match h[n]?, i with
    | some (.lst xs), .int k => (ixN xs.length k).map fun j => h.set n (.lst (xs.set j v))
    | _, _ => dputD h n i v
  | _ => none
mutual
noncomputable def exS (c : Cn) : CS → MS
  | .set i e => fun se h => (ev c e se h).map fun p => (.nx, se.set i (some p.1), p.2)
  | .setT is e => fun se h => (ev c e se h).bind fun p => (putT (.tp is) p.1 se).map fun s => (.nx, s, p.2)
  | .sub o i e => fun se h => (ev c e se h).bind fun p => (ev c o se p.2).bind fun q => (ev c i se q.2).bind fun r => (setD r.2 q.1 r.1 p.1).map fun h' => (.nx, se, h')
  | .fset o f e => fun se h => (ev c e se h).bind fun p => (ev c o se p.2).bind fun q => (fputD c.fok q.2 f p.1 q.1).map fun h' => (.nx, se, h')
  | .aug i op e => fun se h => match se[i]? with
      | some (some x) => (ev c e se h).bind fun p => (augD op x p.1).map fun z => (.nx, se.set i (some z), p.2)
      | _ => none
  | .ret e => fun se h => (ev c e se h).map fun p => (.rt p.1, se, p.2)
  | .retN => fun se h => some (.rt .non, se, h)
  | .exp e => fun se h => (ev c e se h).map fun p => (.nx, se, p.2)
  | .ife t a b => fun se h => (evT c t se h).bind fun p => match p.1 with | true => exB c a se p.2 | false => exB c b se p.2
  | .for_ tg it b => fun se h => (evI c it se h).bind fun p => forD p.1.st tg (exB c b) p.1.xs se p.2
  | .whl t b => whD (evT c t) (exB c b)
  | .brk => fun se h => some (.bk, se, h)
  | .pss => fun se h => some (.nx, se, h)
  | .nev => fun _ _ => none
noncomputable def exB (c : Cn) : CB → MS
  | .nil => fun se h => some (.nx, se, h)
  | .cons s b => fun se h => (exS c s se h).bind fun r => match r.1 with
      | .nx => exB c b r.2.1 r.2.2
      | _ => some r
end

/-! ### the program's tables -/
structure Df where
  nm : Str
  ps : List Str
  N : List Str
  body : CB
  /-- what is made within is let go behind it -/
  cut : Bool
  /-- a method -/
  meth : Bool
/-- a class: its fields, its methods by the defs' numbers, its maker -/
structure Cd where
  nm : Str
  fs : List Str
  ms : List (Str × Nat)
  ini : Nat
structure Tb where
  P : List Df
  G : List (Str × D)
  /-- the built-in names that are read -/
  B : List Str
  gcd : Bool
  Cs : List Cd
def Tb.fok (T : Tb) (C : Nat) (f : Str) : Bool := match T.Cs[C]? with
  | some c => decide (f ∈ c.fs)
  | none => false
def Tb.ini (T : Tb) (C : Nat) : Option Nat := (T.Cs[C]?).map (·.ini)
mutual
/-- what a def hands back, the lists that it made frozen -/
def frz (g : Nat → Option D) : D → Option D
  | .ref n => g n
  | .tup xs => (frzs g xs).map D.tup
  | .lst xs => (frzs g xs).map D.lst
  | d => some d
def frzs (g : Nat → Option D) : List D → Option (List D)
  | [] => some []
  | x :: xs => (frz g x).bind fun y => (frzs g xs).map (y :: ·)
end
def frzN (h : Hs) (n0 : Nat) : Nat → D → Option D
  | 0 => frz fun n => if n < n0 then some (.ref n) else none
  | k + 1 => frz fun n => if n < n0 then some (.ref n) else match h[n]? with
    | some (.lst xs) => (frzs (fun m => frzN h n0 k (.ref m)) xs).map D.lst
    | _ => none
mutual
def clsd (n0 : Nat) : D → Bool
  | .ref n => decide (n < n0)
  | .tup xs => clsds n0 xs
  | .lst xs => clsds n0 xs
  | _ => true
def clsds (n0 : Nat) : List D → Bool
  | [] => true
  | x :: xs => clsd n0 x && clsds n0 xs
end
def clsdO (n0 : Nat) : O → Bool
  | .lst xs => clsds n0 xs
  | .dK kvs => clsds n0 (kvs.map (·.2))
  | .dT kvs => clsds n0 (kvs.map (·.2))
  | .ins _ fs => clsds n0 (fs.map (·.2))
open Classical in
noncomputable def leave (cut : Bool) (h : Hs) (d : D) (h' : Hs) : Option (D × Hs) :=
  if cut then
    if ∀ n o, n < h.length → h'[n]? = some o → h[n]? = some o ∨ clsdO h.length o = true then (frzN h' h.length 3 d).map fun e => (e, h'.take h.length) else none
  else some (d, h')
def startD (n : Nat) (ds : List D) : S := ds.map some ++ List.replicate (n - ds.length) none
noncomputable def call (T : Tb) : Nat → Nat → List D → Hs → Option (D × Hs)
  | 0 => fun _ _ _ => none
  | n + 1 => fun f ds h => match T.P[f]? with
    | none => none
    | some d => if ds.length = d.ps.length then
        (exB ⟨call T n, fun i => (T.G[i]?).map (·.2), call T (n - 1), T.fok, T.ini⟩ d.body (startD d.N.length ds) h).bind fun r => match r.1 with
          | .rt v => leave d.cut h v r.2.2
          | .nx => leave d.cut h .non r.2.2
          | _ => none
      else none
noncomputable def cn (T : Tb) (n : Nat) : Cn := ⟨call T n, fun i => (T.G[i]?).map (·.2), call T (n - 1), T.fok, T.ini⟩

/-! ### the checker -/
def notStar : Expr → Bool
  | .Starred .. => false
  | _ => true
def notSet : Expr → Bool
  | .Set .. => false
  | _ => true
/-- no call without arguments (super) -/
def baseOk : Expr → Bool
  | .Call .. => false
  | _ => true
/-- no slice object: a plain subscript -/
def plainIx : Expr → Bool
  | .Slice .. => false
  | _ => true
def visB (sc : Scope) (x : Str) : Bool := match sc.names.lookup x with
  | some .local => true | some .cell => true | some .free => true | _ => false
def locB (sc : Scope) (x : Str) : Bool := match sc.names.lookup x with
  | some .local => true | some .cell => true | _ => false
def glB (sc : Scope) (x : Str) : Bool := match sc.names.lookup x with
  | some .globalImplicit => true | _ => false
def nameOk (x : Str) : Bool := !(x == ("__debug__" : Str)) && !(x == ("__classdict__" : Str)) && !(decide (x = ("__name__" : Str)))
def cstB : D → Const → Bool
  | .non, .none => true
  | .bl b, .bool c => b == c
  | .int i, .int j => decide (i = j)
  | .str x, .str y => decide (x = y)
  | _, _ => false
def Bl.nm : Bl → Str
  | .len => "len" | .int => "int" | .tuple => "tuple" | .sum => "sum" | .any => "any" | .all => "all" | .abs => "abs" | .min => "min" | .max => "max" | .gcd => "gcd"
def Ty.nm : Ty → Str
  | .int => "int" | .bool => "bool" | .tuple => "tuple" | .str => "str"
def Mt.nm : Mt → Str
  | .append => "append" | .extend => "extend" | .pop => "pop" | .index => "index"
/-- a built-in's name, called -/
def bltC (T : Tb) (sc : Scope) (x y : Str) : Bool := decide (x = y) && decide (y ∈ T.B) && glB sc y
def kGs (st : Str → Bool) (N : List Str) : List Nat → List Expr → Bool
  | [], [] => true
  | i :: is, .Name x _ :: es => decide (N[i]? = some x) && st x && kGs st N is es
  | _, _ => false
def kG (st : Str → Bool) (N : List Str) : Tg → Expr → Bool
  | .nm i, .Name x _ => decide (N[i]? = some x) && st x
  | .tp is, .Tuple es _ _ => kGs st N is es
  | _, _ => false
def tgIn (own : List Nat) : Tg → Bool
  | .nm i => decide (i ∈ own)
  | .tp is => is.all fun i => decide (i ∈ own)
def tstOk : Expr → Bool
  | .BoolOp .. => false | .Compare .. => false | .UnaryOp .Not .. => false | .NamedExpr .. => false | .IfExp .. => false | .Constant .. => false | _ => true
def isLC : Expr → Bool
  | .ListComp .. => true
  | _ => false
def notSC : Expr → Bool
  | .SetComp .. => false | .DictComp .. => false | _ => true
def notTup : Expr → Bool
  | .Tuple .. => false | _ => true
def isTup : Expr → Bool
  | .Tuple .. => true | _ => false
def nameE : Expr → Bool
  | .Name .. => true
  | _ => false
def kD : List (Int × Int) → List (Option Expr) → List Expr → Bool
  | [], [], [] => true
  | (i, j) :: kvs, some (.Constant (.int i') _ _) :: ks, (.Constant (.int j') _ _) :: vs => decide (i = i') && decide (j = j') && kD kvs ks vs
  | _, _, _ => false
mutual
def kE (T : Tb) (N : List Str) (sc : Scope) : CE → Expr → Bool
  | .var i, .Name x _ => decide (N[i]? = some x) && visB sc x && nameOk x
  | .cst d, .Constant c _ _ => cstB d c
  | .glb i, .Name x _ => (match T.G[i]? with | some p => decide (p.1 = x) | none => false) && glB sc x && nameOk x
  | .bin op a b, .BinOp l o r _ => decide (op = o) && kE T N sc a l && kE T N sc b r
  | .neg a, .UnaryOp .USub x _ => kE T N sc a x
  | .cmp op a b, .Compare l [o] [r] _ => decide (op = o) && !behindInMarks o r && kE T N sc a l && kE T N sc b r
  | .andv a b, .BoolOp .And (x :: y :: r) p => kE T N sc a x && (match r with | [] => kE T N sc b y | z :: r => kE T N sc b (.BoolOp .And (y :: z :: r) p))
  | .orv a b, .BoolOp .Or (x :: y :: r) p => kE T N sc a x && (match r with | [] => kE T N sc b y | z :: r => kE T N sc b (.BoolOp .Or (y :: z :: r) p))
  | .notv a, .UnaryOp .Not x _ => kE T N sc a x
  | .ife t a b, .IfExp c x y _ => kT T N sc t c && kE T N sc a x && kE T N sc b y
  | .tup es, .Tuple xs _ _ => kA T N sc es xs
  | .pl f, e => kF T N sc f e
  | .bx f, e => kF T N sc f e
  | .idx a i, .Subscript x y _ => plainIx y && kE T N sc a x && kE T N sc i y
  | .slt a lo hi, .Subscript x (.Slice l u none _) _ => kE T N sc a x && kO T N sc lo l && kO T N sc hi u
  | .call f (.cons e es), .Call (.Name x _) (y :: ys) [] _ => (match T.P[f]? with | some d => decide (d.nm = x) && !d.meth | none => false) && glB sc x && nameOk x && kA T N sc (.cons e es) (y :: ys)
  | .blt b (.cons e es), .Call (.Name x _) (y :: ys) [] _ => (if b = .gcd then T.gcd && decide (x = b.nm) && glB sc x else bltC T sc x b.nm) && kA T N sc (.cons e es) (y :: ys)
  | .isi a t, .Call (.Name x _) [y, .Name z _] [] _ => bltC T sc x "isinstance" && notStar y && kE T N sc a y && bltC T sc z t.nm
  | .mth m a (.cons e .nil), .Call (.Attribute x z ap) [y] [] cp => decide (z = m.nm) && (ap.endLine == cp.line) && baseOk x && notStar y && kE T N sc a x && kE T N sc e y
  | .fld a f, .Attribute x z _ => decide (z = f) && baseOk x && kE T N sc a x
  | .new C, .Call (.Name x _) [] [] _ => (match T.Cs[C]? with | some d => decide (d.nm = x) | none => false) && glB sc x && nameOk x
  | .mcl C m f a (.cons e es), .Call (.Attribute x z ap) (y :: ys) [] cp => decide (z = m) && (ap.endLine == cp.line) && decide ((y :: ys).length < 20) && nameE x && (match T.Cs[C]? with | some d => decide ((m, f) ∈ d.ms) | none => false) && kE T N sc a x && kA T N sc (.cons e es) (y :: ys)
  | .dnK, .Dict [] [] _ => true
  | .dnT, .Dict [] [] _ => true
  | .dlt kvs, .Dict (k :: ks) vs _ => decide ((k :: ks).length ≤ 15) && kD kvs (k :: ks) vs
  | _, _ => false
def kA (T : Tb) (N : List Str) (sc : Scope) : CA → List Expr → Bool
  | .nil, [] => true
  | .cons e es, x :: xs => notStar x && kE T N sc e x && kA T N sc es xs
  | _, _ => false
def kO (T : Tb) (N : List Str) (sc : Scope) : CO → Option Expr → Bool
  | .no, none => true
  | .yes e, some x => kE T N sc e x
  | _, _ => false
def kT (T : Tb) (N : List Str) (sc : Scope) : CT → Expr → Bool
  | .tru e, x => tstOk x && kE T N sc e x
  | .cmp op a b, .Compare l [o] [r] _ => decide (op = o) && !behindInMarks o r && kE T N sc a l && kE T N sc b r
  | .and a b, .BoolOp .And (x :: y :: r) p => kT T N sc a x && (match r with | [] => kT T N sc b y | z :: r => kT T N sc b (.BoolOp .And (y :: z :: r) p))
  | .or a b, .BoolOp .Or (x :: y :: r) p => kT T N sc a x && (match r with | [] => kT T N sc b y | z :: r => kT T N sc b (.BoolOp .Or (y :: z :: r) p))
  | .not a, .UnaryOp .Not x _ => kT T N sc a x
  | _, _ => false
def kC (T : Tb) (N : List Str) (sc : Scope) : CC → List Expr → Bool
  | .no, [] => true
  | .yes t, [x] => kT T N sc t x
  | _, _ => false
def kI (T : Tb) (N : List Str) (sc : Scope) (tg : Expr) : CI → Expr → Bool
  | .seq e, x => notSet x && kE T N sc e x
  | .rng1 e, .Call (.Name x _) [y] [] _ => bltC T sc x "range" && notStar y && kE T N sc e y
  | .rng2 a b, .Call (.Name x _) [y, z] [] _ => bltC T sc x "range" && notStar y && notStar z && kE T N sc a y && kE T N sc b z
  | .enum e, .Call (.Name x _) [y] [] _ => isTup tg && bltC T sc x "enumerate" && notStar y && kE T N sc e y
  | _, _ => false
def kF (T : Tb) (N : List Str) (sc : Scope) : CF → Expr → Bool
  | .disp es, .List xs _ => kA T N sc es xs
  | .comp own tg it cn elt, .ListComp el [⟨t, i, fs, as⟩] scope _ => decide (as = 0) && blkC N sc scope own && notSet i && kI T N sc t it i && kG (locB scope) N tg t && tgIn (own.map (·.2)) tg &&
      kC T N (relS scope sc) cn fs && kE T N (relS scope sc) elt el
  | .lst e, .Call (.Name x _) [y] [] _ => bltC T sc x "list" && notStar y && kE T N sc e y
  | .lrg e, .Call (.Name x _) [.Call (.Name z _) [y] [] _] [] _ => bltC T sc x "list" && bltC T sc z "range" && notStar y && kE T N sc e y
  | .srt e, .Call (.Name x _) [y] [] _ => bltC T sc x "sorted" && notStar y && kE T N sc e y
  | .sll a lo hi, .Subscript x (.Slice l u none _) _ => kE T N sc a x && kO T N sc lo l && kO T N sc hi u
  | .slk a lo st, .Subscript x (.Slice (some (.Constant (.int l) _ _)) none (some (.Constant (.int s) _ _)) _) _ => decide (l = lo) && decide (s = st) && decide (0 < st) && kE T N sc a x
  | .cat a b, .BinOp l .Add r _ => kE T N sc a l && kE T N sc b r
  | _, _ => false
end
def notComp : Expr → Bool
  | .ListComp .. => false | .SetComp .. => false | .DictComp .. => false | _ => true
mutual
def kS (T : Tb) (N : List Str) (sc : Scope) : CS → Stmt → Bool
  | .set i e, .Assign [.Name x px] v _ => notSC v && decide (N[i]? = some x) && locB sc x && kE T N sc e v
  | .setT is e, .Assign [.Tuple es k tp] v _ => notComp v && notTup v && kG (locB sc) N (.tp is) (.Tuple es k tp) && kE T N sc e v
  | .sub o i e, .Assign [.Subscript x y _] v _ => notComp v && plainIx y && kE T N sc o x && kE T N sc i y && kE T N sc e v
  | .fset o f e, .Assign [.Attribute x z _] v _ => decide (z = f) && notComp v && kE T N sc o x && kE T N sc e v
  | .aug i op e, .AugAssign (.Name x _) o v _ => decide (op = o) && decide (N[i]? = some x) && locB sc x && kE T N sc e v
  | .ret e, .Return (some v) _ => kE T N sc e v
  | .retN, .Return none _ => true
  | .exp e, .Expr v _ => notComp v && kE T N sc e v
  | .ife t a b, .If c x y _ => kT T N sc t c && kB T N sc a x && kB T N sc b y
  | .for_ tg it b, .For t i x [] _ => notSet i && kI T N sc t it i && kG (locB sc) N tg t && kB T N sc b x
  | .whl t b, .While c x [] _ => kT T N sc t c && kB T N sc b x
  | .brk, .Break _ => true
  | .pss, .Pass _ => true
  | .nev, _ => true
  | _, _ => false
def kB (T : Tb) (N : List Str) (sc : Scope) : CB → List Stmt → Bool
  | .nil, [] => true
  | .cons s b, x :: xs => kS T N sc s x && kB T N sc b xs
  | _, _ => false
end
end Cr
/-! Core 3: the rules by values. -/
namespace Cr
open PySem PySem.Spec PyProof.Rows L2

section
variable {K : PySem.W.Frag} {cl : Nat → Option Addr} {H H' : Hp} {al al' : Al} {h : Hs}
mutual
theorem RV.dp : ∀ {d : D} {v : V}, RV K H al v d → noref d = true → Dp K H v (DP d)
  | .non, _, .non, _ => by simp only [DP]; exact .non
  | .bl b, _, .bl _, _ => by simp only [DP]; exact .bl b
  | .int b, _, .int _, _ => by simp only [DP]; exact .int b
  | .str b, _, .str _, _ => by simp only [DP]; exact .str b
  | .tup ds, _, .tup hv r, n => by
    simp only [DP]
    simp only [noref] at n
    exact .tup (hv.elim (fun z => .inl (.inl z.1)) False.elim) (RVs.dp r n)
  | .lst ds, _, .lst hv _ r, n => by
    simp only [DP]
    simp only [noref] at n
    exact .lst (.inl (.inl hv)) (RVs.dp r n)
  | .ref _, _, _, n => by simp [noref] at n
  | .scr _, _, _, n => by simp [noref] at n
theorem RVs.dp : ∀ {ds : List D} {vs : List V}, RVs K H al vs ds → norefs ds = true → DpAll K H vs (DPs ds)
  | [], _, .nil, _ => by simp only [DPs]; exact .nil
  | d :: ds, _, .cons r t, n => by
    simp only [norefs, Bool.and_eq_true] at n
    simp only [DPs]
    exact .cons (RV.dp r n.1) (RVs.dp t n.2)
end
mutual
theorem deq_ok : ∀ {x y : D}, noref x = true → noref y = true → PyData.eqv (DP x) (DP y) = deq x y
  | .tup xs, .tup ys, h1, h2 => by
    simp only [noref] at h1 h2
    simp only [DP, PyData.eqv, deq]
    exact deqs_ok h1 h2
  | .lst xs, .lst ys, h1, h2 => by
    simp only [noref] at h1 h2
    simp only [DP, PyData.eqv, deq]
    exact deqs_ok h1 h2
  | .ref _, _, h1, _ => by simp [noref] at h1
  | .scr _, _, h1, _ => by simp [noref] at h1
  | _, .ref _, _, h1 => by simp [noref] at h1
  | _, .scr _, _, h1 => by simp [noref] at h1
  | .non, .non, _, _ | .non, .bl _, _, _ | .non, .int _, _, _ | .non, .str _, _, _ | .non, .tup _, _, _ | .non, .lst _, _, _ => by simp only [DP, PyData.eqv, deq]
  | .bl _, .non, _, _ | .bl _, .bl _, _, _ | .bl _, .int _, _, _ | .bl _, .str _, _, _ | .bl _, .tup _, _, _ | .bl _, .lst _, _, _ => by simp only [DP, PyData.eqv, deq]
  | .int _, .non, _, _ | .int _, .bl _, _, _ | .int _, .int _, _, _ | .int _, .str _, _, _ | .int _, .tup _, _, _ | .int _, .lst _, _, _ => by simp only [DP, PyData.eqv, deq]
  | .str _, .non, _, _ | .str _, .bl _, _, _ | .str _, .int _, _, _ | .str _, .str _, _, _ | .str _, .tup _, _, _ | .str _, .lst _, _, _ => by simp only [DP, PyData.eqv, deq]
  | .tup _, .non, _, _ | .tup _, .bl _, _, _ | .tup _, .int _, _, _ | .tup _, .str _, _, _ | .tup _, .lst _, _, _ => by simp only [DP, PyData.eqv, deq]
  | .lst _, .non, _, _ | .lst _, .bl _, _, _ | .lst _, .int _, _, _ | .lst _, .str _, _, _ | .lst _, .tup _, _, _ => by simp only [DP, PyData.eqv, deq]
theorem deqs_ok : ∀ {xs ys : List D}, norefs xs = true → norefs ys = true → PyData.eqvAll (DPs xs) (DPs ys) = deqs xs ys
  | [], [], _, _ => by simp only [DPs, PyData.eqvAll, deqs]
  | [], _ :: _, _, _ => by simp only [DPs, PyData.eqvAll, deqs]
  | _ :: _, [], _, _ => by simp only [DPs, PyData.eqvAll, deqs]
  | x :: xs, y :: ys, h1, h2 => by
    simp only [norefs, Bool.and_eq_true] at h1 h2
    simp only [DPs, PyData.eqvAll, deqs]
    rw [deq_ok h1.1 h2.1, deqs_ok h1.2 h2.2]
end
/-- a flat value -/
theorem flat_of {v : V} {d : D} (r : RV K H al v d) (f : flat d = true) : flatV v = true := by
  cases r <;> first | rfl | (simp [flat] at f)
theorem flats_of : ∀ {vs : List V} {ds : List D}, RVs K H al vs ds → ds.all flat = true → vs.all flatV = true
  | _, _, .nil, _ => rfl
  | _, _, .cons r t, f => by
    simp only [List.all_cons, Bool.and_eq_true] at f ⊢
    exact ⟨flat_of r f.1, flats_of t f.2⟩
theorem eqV_of {v w' : V} {d e : D} (r : RV K H al v d) (q : RV K H al w' e) (f : flat d = true) (g : flat e = true) : eqV v w' = deq d e := by
  cases r <;> first
    | (simp [flat] at f; done)
    | (cases q <;> first | (simp [flat] at g; done) | (simp only [eqV, deq]; done))
theorem inV_of {v : V} {d : D} (q : RV K H al v d) (g : flat d = true) : ∀ {vs : List V} {ds : List D}, RVs K H al vs ds → ds.all flat = true → inV v vs = memD ds d
  | _, _, .nil, _ => rfl
  | _, _, .cons r t, f => by
    simp only [List.all_cons, Bool.and_eq_true] at f
    have ih := inV_of q g t f.2
    unfold inV memD at ih ⊢
    rw [List.any_cons, List.any_cons, ih, eqV_of r q f.1 g]
theorem mem_deep {d : D} (n : noref d = true) : ∀ {ds : List D}, norefs ds = true → ((DPs ds).any fun z => PyData.eqv z (DP d)) = memD ds d
  | [], _ => by simp [DPs, memD]
  | e :: ds, m => by
    simp only [norefs, Bool.and_eq_true] at m
    have ih := mem_deep n m.2
    unfold memD at ih ⊢
    simp only [DPs, List.any_cons]
    rw [ih, deq_ok m.1 n]
theorem okD_ok {d : D} (k : okD d = true) : noref d = true ∧ SeqAt.shaped (DP d) = true := by
  unfold okD at k
  exact Bool.and_eq_true_iff.mp k
/-- by a value pair -/
def L2R (K : PySem.W.Frag) (cl : Nat → Option Addr) (f : Hs → D → D → Option D) : R2 := fun x y H Q => ∃ al h dx dy d, Rp K cl H al h ∧ RV K H al x dx ∧ RV K H al y dy ∧ f h dx dy = some d ∧ FinE K cl al H h d Q
end

section
variable {X : Cx} {cl : Nat → Option Addr}
theorem ob_bin (op : Operator) : OpR X (binaryOp op) (L2R X.K cl fun _ x y => binD op x y) := by
  intro pins s sg H x y v u Q I rx ry q
  obtain ⟨al, h, dx, dy, d, rp, qx, qy, e, f⟩ := q
  simp only [binD] at e
  split at e
  · cases qx; cases qy; cases e
    exact op_add pins s sg H _ _ v u Q I rx ry ⟨_, _, rfl, rfl, f.now rp (.int _)⟩
  · split at e
    · rename_i hl
      cases qx; cases qy; cases e
      exact op_add_str pins s sg H _ _ v u Q I rx ry ⟨_, _, rfl, rfl, hl, f.now rp (.str _)⟩
    · cases e
  · split at e
    · rename_i hl
      cases e
      obtain ⟨a, vs, rfl, ha, r1⟩ := qx.tupS
      obtain ⟨b, ws, rfl, hb, r2⟩ := qy.tupS
      refine op_catA pins s sg H _ _ v u Q I rx ry ⟨a, b, vs, ws, rfl, rfl, ha, hb, by rw [r1.length, r2.length]; exact hl, fun z => ?_, fun _ z => ?_, fun _ _ p hp => f.tup rp (r1.app r2) p hp⟩
      · have e0 := r1.nil_iff.mp z
        subst e0
        exact f.now rp qy
      · have e0 := r2.nil_iff.mp z
        subst e0
        rw [List.append_nil] at f
        exact f.now rp qx
    · cases e
  · cases qx; cases qy; cases e
    exact op_sub pins s sg H _ _ v u Q I rx ry ⟨_, _, rfl, rfl, f.now rp (.int _)⟩
  · split at e
    · rename_i hl
      cases qx; cases qy; cases e
      rcases hl with hl | hl | hl
      · exact op_mul pins s sg H _ _ v u Q I rx ry ⟨_, _, rfl, rfl, .inl ⟨by omega, by omega⟩, f.now rp (.int _)⟩
      · exact op_mul pins s sg H _ _ v u Q I rx ry ⟨_, _, rfl, rfl, .inr ⟨by omega, by omega⟩, f.now rp (.int _)⟩
      · exact op_mulW pins s sg H _ _ v u Q I rx ry ⟨_, _, rfl, rfl, hl, f.now rp (.int _)⟩
    · cases e
  · split at e
    · rename_i hl
      cases qx; cases qy; cases e
      exact op_fdivW pins s sg H _ _ v u Q I rx ry ⟨_, _, rfl, rfl, hl, f.now rp (.int _)⟩
    · cases e
  · split at e
    · rename_i hl
      cases qx; cases qy; cases e
      exact op_mod pins s sg H _ _ v u Q I rx ry ⟨_, _, rfl, rfl, hl, f.now rp (.int _)⟩
    · cases e
  · split at e
    · rename_i hl
      cases qx; cases qy; cases e
      exact op_pow pins s sg H _ _ v u Q I rx ry ⟨_, _, rfl, rfl, hl, f.now rp (.int _)⟩
    · cases e
  · cases e
/-- what is looked at of a changed list: the list itself -/
theorem RV.res {K : PySem.W.Frag} {H : Hp} {al : Al} {h : Hs} {v : V} {d : D} (rp : Rp K cl H al h) (q : RV K H al v d) (n : noref (res h d) = true) : Dp K H v (DP (res h d)) := by
  cases d with
  | ref n' =>
    unfold Cr.res at n ⊢
    simp only at n ⊢
    split at n
    · rename_i xs e
      obtain ⟨a, rfl, _, vs, e2, r⟩ := rp.ref q e
      simp only [noref] at n
      simp only [DP]
      exact .lst (.inl (.inl e2)) (r.dp n)
    · simp [noref] at n
  | _ => exact RV.dp q n
theorem eq_run (hu : X.A.units + 64 < cLine) {neg : Bool} : OpR X (compareOp (if neg then .NotEq else .Eq)) (L2R X.K cl fun h x y => (eqD h x y).map fun k => D.bl (if neg then !k else k)) := by
  intro pins s sg H x y v u Q I rx ry q
  obtain ⟨al, h, dx, dy, d, rp, qx, qy, e, f⟩ := q
  replace e : (eqD h dx dy).map (fun k => D.bl (if neg then !k else k)) = some d := e
  obtain ⟨k, ek, ed⟩ := Option.map_eq_some_iff.mp e
  subst ed
  clear e
  have e := ek
  clear ek
  unfold eqD at e
  split at e
  · rename_i a b e1 e2
    cases e
    have hx : dx = .str a := by
      cases dx <;> simp only [Cr.res] at e1 <;> first | exact e1 | (split at e1 <;> cases e1) | cases e1
    have hy : dy = .str b := by
      cases dy <;> simp only [Cr.res] at e2 <;> first | exact e2 | (split at e2 <;> cases e2) | cases e2
    subst hx hy
    cases qx
    cases qy
    have ed : decide (V.str a = V.str b) = decide (a = b) := by simp
    cases neg with
    | false => exact op_eq pins s sg H _ _ v u Q I rx ry ⟨rfl, by rw [ed]; exact f.now rp (.bl _)⟩
    | true => exact op_ne pins s sg H _ _ v u Q I rx ry ⟨rfl, by rw [ed]; exact f.now rp (.bl _)⟩
  · split at e
    · rename_i hk
      cases e
      obtain ⟨k1, k2⟩ := Bool.and_eq_true_iff.mp hk
      obtain ⟨n1, s1⟩ := okD_ok k1
      obtain ⟨n2, s2⟩ := okD_ok k2
      have d1 := RV.res rp qx n1
      have d2 := RV.res rp qy n2
      have ee := deq_ok n1 n2
      cases neg with
      | false => exact op_eqD hu pins s sg H _ _ v u Q I rx ry ⟨_, _, d1, d2, s1, s2, by rw [ee]; exact f.now rp (.bl _)⟩
      | true => exact op_neD hu pins s sg H _ _ v u Q I rx ry ⟨_, _, d1, d2, s1, s2, by rw [ee]; exact f.now rp (.bl _)⟩
    · cases e
theorem key_of' {K : PySem.W.Frag} {H : Hp} {al : Al} {v : V} {d : D} {k : L2.Key} (r : RV K H al v d) (e : keyD d = some k) : v = kV k := by
  cases r <;> simp only [keyD] at e <;> first | (cases e; rfl) | cases e
theorem keys_of {K : PySem.W.Frag} {H : Hp} {al : Al} : ∀ {vs : List V} {ds : List D} {ks : List L2.Key}, RVs K H al vs ds → keysD ds = some ks → vs = ks.map kV
  | _, _, _, .nil, e => by cases e; rfl
  | _, _, _, .cons (d := d) (ds := ds) r t, e => by
    have e : (keyD d).bind (fun k => (keysD ds).map (k :: ·)) = some _ := e
    obtain ⟨k, e1, e2⟩ := Option.bind_eq_some_iff.mp e
    obtain ⟨ks, e3, e4⟩ := Option.map_eq_some_iff.mp e2
    subst e4
    rw [key_of' r e1, keys_of t e3]
    rfl
theorem dget_of {K : PySem.W.Frag} {H : Hp} {al : Al} {h : Hs} {v w' : V} {n : Nat} {y : D} {o : Option D} (rp : Rp K cl H al h) (qx : RV K H al v (.ref n)) (qy : RV K H al w' y) (e : dgetD h n y = some o) :
    ∃ a ov, v = .ref a ∧ DGet H a w' ov ∧ ((o = none ∧ ov = none) ∨ ∃ d u, o = some d ∧ ov = some u ∧ RV K H al u d) := by
  unfold dgetD at e
  split at e
  · rename_i kvs e1
    obtain ⟨k, e2, e3⟩ := Option.map_eq_some_iff.mp e
    obtain ⟨a, rfl, _, ws, e4, r⟩ := rp.ref qx e1
    have ew := key_of' qy e2
    subst ew e3
    refine ⟨a, _, rfl, DGet.k e4, ?_⟩
    rcases r.val (k := k) with ⟨h1, h2⟩ | ⟨d, u, h1, h2, h3⟩
    · exact .inl ⟨h1, h2⟩
    · exact .inr ⟨d, u, h1, h2, h3⟩
  · rename_i kvs e1
    split at e
    · rename_i ds
      obtain ⟨k, e2, e3⟩ := Option.map_eq_some_iff.mp e
      obtain ⟨a, rfl, _, ws, e4, r⟩ := rp.ref qx e1
      cases qy with
      | @tup b vs _ hb rs =>
        have ew := keys_of rs e2
        subst ew e3
        refine ⟨a, _, rfl, DGet.t e4 (hb.elim (fun z => z.1) False.elim), ?_⟩
        rcases r.val (k := k) with ⟨h1, h2⟩ | ⟨d, u, h1, h2, h3⟩
        · exact .inl ⟨h1, h2⟩
        · exact .inr ⟨d, u, h1, h2, h3⟩
    · cases e
  · cases e
theorem dput_of {K : PySem.W.Frag} {H : Hp} {al : Al} {h h' : Hs} {v w' u : V} {n : Nat} {y d : D} (rp : Rp K cl H al h) (qx : RV K H al v (.ref n)) (qy : RV K H al w' y) (qv : RV K H al u d) (e : dputD h n y d = some h') :
    ∃ a o, v = .ref a ∧ a ∈ al.r ∧ DPut H a w' u (upd H a o) ∧ Rp K cl (upd H a o) al h' := by
  unfold dputD at e
  split at e
  · rename_i kvs e1
    obtain ⟨k, e2, e3⟩ := Option.bind_eq_some_iff.mp e
    split at e3
    · rename_i hl
      cases e3
      obtain ⟨a, rfl, ha, ws, e4, r⟩ := rp.ref qx e1
      have ew := key_of' qy e2
      subst ew
      have sw : Stp al H al (upd H a (.dK (putK ws k u))) := Stp.wr (List.mem_of_getElem? ha)
      exact ⟨a, _, rfl, List.mem_of_getElem? ha, DPut.k e4 (by rw [r.length]; exact hl), rp.wr ha ⟨_, upd_same, RKs.put (qv.stp sw) (r.stp sw)⟩⟩
    · cases e3
  · rename_i kvs e1
    split at e
    · rename_i ds
      obtain ⟨k, e2, e3⟩ := Option.bind_eq_some_iff.mp e
      split at e3
      · rename_i hl
        cases e3
        obtain ⟨a, rfl, ha, ws, e4, r⟩ := rp.ref qx e1
        cases qy with
        | @tup b vs _ hb rs =>
          have ew := keys_of rs e2
          subst ew
          have sw : Stp al H al (upd H a (.dT (putK ws k u))) := Stp.wr (List.mem_of_getElem? ha)
          exact ⟨a, _, rfl, List.mem_of_getElem? ha, DPut.t e4 (hb.elim (fun z => z.1) False.elim) (by rw [r.length]; exact hl), rp.wr ha ⟨_, upd_same, RKs.put (qv.stp sw) (r.stp sw)⟩⟩
      · cases e3
    · cases e
  · cases e
theorem in_run (hu : X.A.units + 65 < cLine) {neg : Bool} : OpR X (compareOp (if neg then .NotIn else .In)) (L2R X.K cl fun h x y => (inD h x y).map fun k => D.bl (if neg then !k else k)) := by
  intro pins s sg H x y v u Q I rx ry q
  obtain ⟨al, h, dx, dy, d, rp, qx, qy, e, f⟩ := q
  replace e : (inD h dx dy).map (fun k => D.bl (if neg then !k else k)) = some d := e
  obtain ⟨k, ek, ed⟩ := Option.map_eq_some_iff.mp e
  subst ed
  clear e
  have e := ek
  clear ek
  have list : ∀ (p : Addr) (vs : List V) (ys : List D), y = .ref p → H p = some (.lst vs) → RVs X.K H al vs ys → ((flat dx && ys.all flat) || (okD dx && okD (.lst ys))) = true → k = memD ys dx →
      wpAny (model X.prog X.w) X.A (compareOp (if neg then .NotIn else .In) v u) (EP X pins sg Q) X.xe s := by
    intro p vs ys ey hp r ho ek
    subst ey ek
    rcases Bool.or_eq_true_iff.mp ho with z | z
    · obtain ⟨z1, z2⟩ := Bool.and_eq_true_iff.mp z
      have e1 := inV_of qx z1 r z2
      cases neg with
      | false => exact op_in_seq pins s sg H _ _ v u Q I rx ry ⟨p, vs, rfl, .inl (SqL.of hp), flat_of qx z1, flats_of r z2, by rw [e1]; exact f.now rp (.bl _)⟩
      | true => exact op_notIn_seq pins s sg H _ _ v u Q I rx ry ⟨p, vs, rfl, .inl (SqL.of hp), flat_of qx z1, flats_of r z2, by rw [e1]; exact f.now rp (.bl _)⟩
    · obtain ⟨z1, z2⟩ := Bool.and_eq_true_iff.mp z
      obtain ⟨n1, s1⟩ := okD_ok z1
      obtain ⟨n2, s2⟩ := okD_ok z2
      have n2' : norefs ys = true := by simpa only [noref] using n2
      have s2' : SeqAt.shaped (.list (DPs ys)) = true := by simpa only [DP] using s2
      have e1 := mem_deep n1 n2'
      have dl : Dp X.K H (.ref p) (.list (DPs ys)) := .lst (SqL.of hp) (r.dp n2')
      cases neg with
      | false => exact op_inD hu pins s sg H _ _ v u Q I rx ry ⟨_, _, qx.dp n1, dl, s1, s2', by rw [e1]; exact f.now rp (.bl _)⟩
      | true => exact op_notInD hu pins s sg H _ _ v u Q I rx ry ⟨_, _, qx.dp n1, dl, s1, s2', by rw [e1]; exact f.now rp (.bl _)⟩
  unfold inD at e
  split at e
  · rename_i n
    split at e
    · rename_i ys e1
      split at e
      · rename_i ho
        cases e
        obtain ⟨a, rfl, _, vs, e2, r⟩ := rp.ref qy e1
        exact list a vs ys rfl e2 r ho rfl
      · cases e
    · obtain ⟨o, e1, e2⟩ := Option.map_eq_some_iff.mp e
      subst e2
      obtain ⟨a, ov, rfl, g, ho⟩ := dget_of rp qy qx e1
      have es : ov.isSome = o.isSome := by
        rcases ho with ⟨rfl, rfl⟩ | ⟨_, _, rfl, rfl, _⟩ <;> rfl
      obtain rfl : u = Value.ref a := ry
      cases neg with
      | false => exact d_in (by omega) I g rx fun s' I' => ⟨.bl ov.isSome, H, I', rfl, by rw [es]; exact f.now rp (.bl _)⟩
      | true => exact d_notIn (by omega) I g rx fun s' I' => ⟨.bl (!ov.isSome), H, I', rfl, by rw [es]; exact f.now rp (.bl _)⟩
  · rename_i ys
    split at e
    · rename_i ho
      cases e
      obtain ⟨a, vs, rfl, e2, r⟩ := qy.lstS
      exact list a vs ys rfl e2 r ho rfl
    · cases e
  · rename_i ys
    split at e
    · rename_i ho
      cases e
      obtain ⟨a, vs, rfl, e2, r⟩ := qy.tupS
      obtain ⟨z1, z2⟩ := Bool.and_eq_true_iff.mp ho
      have e1 := inV_of qx z1 r z2
      cases neg with
      | false => exact op_in_seq pins s sg H _ _ v u Q I rx ry ⟨a, vs, rfl, .inr e2, flat_of qx z1, flats_of r z2, by rw [e1]; exact f.now rp (.bl _)⟩
      | true => exact op_notIn_seq pins s sg H _ _ v u Q I rx ry ⟨a, vs, rfl, .inr e2, flat_of qx z1, flats_of r z2, by rw [e1]; exact f.now rp (.bl _)⟩
    · cases e
  · cases e
theorem isN_ok {K : PySem.W.Frag} {H : Hp} {al : Al} {v : V} {d : D} (r : RV K H al v d) : decide (v = .non) = isN d := by
  cases r <;> simp [isN]
theorem ob_cmp (hu : X.A.units + 65 < cLine) (op : CmpOp) : OpR X (compareOp op) (L2R X.K cl fun h x y => (cmpD op h x y).map D.bl) := by
  cases op with
  | Eq => exact eq_run (neg := false) (by omega)
  | NotEq =>
    intro pins s sg H x y v u Q I rx ry q
    obtain ⟨al, h, dx, dy, d, rp, qx, qy, e, f⟩ := q
    refine eq_run (neg := true) (cl := cl) (by omega) pins s sg H x y v u Q I rx ry ⟨al, h, dx, dy, d, rp, qx, qy, ?_, f⟩
    simp only [cmpD, Option.map_map] at e
    exact e
  | In => exact in_run (neg := false) hu
  | NotIn =>
    intro pins s sg H x y v u Q I rx ry q
    obtain ⟨al, h, dx, dy, d, rp, qx, qy, e, f⟩ := q
    refine in_run (neg := true) (cl := cl) hu pins s sg H x y v u Q I rx ry ⟨al, h, dx, dy, d, rp, qx, qy, ?_, f⟩
    simp only [cmpD, Option.map_map] at e
    exact e
  | _ =>
    intro pins s sg H x y v u Q I rx ry q
    obtain ⟨al, h, dx, dy, d, rp, qx, qy, e, f⟩ := q
    simp only [cmpD] at e
    first
      | (split at e
         · cases qx; cases qy; cases e
           first
             | exact op_lt pins s sg H _ _ v u Q I rx ry ⟨_, _, rfl, rfl, f.now rp (.bl _)⟩
             | exact op_le pins s sg H _ _ v u Q I rx ry ⟨_, _, rfl, rfl, f.now rp (.bl _)⟩
             | exact op_gt pins s sg H _ _ v u Q I rx ry ⟨_, _, rfl, rfl, f.now rp (.bl _)⟩
             | exact op_ge pins s sg H _ _ v u Q I rx ry ⟨_, _, rfl, rfl, f.now rp (.bl _)⟩
         · cases e)
      | (split at e
         · cases qy; cases e
           first
             | exact op_isN pins s sg H _ _ v u Q I rx ry ⟨rfl, by rw [isN_ok qx]; exact f.now rp (.bl _)⟩
             | exact op_notN pins s sg H _ _ v u Q I rx ry ⟨rfl, by rw [isN_ok qx]; exact f.now rp (.bl _)⟩
         · cases e)
/-- truth -/
theorem truV_of {K : PySem.W.Frag} {H : Hp} {al : Al} {h : Hs} {v : V} {d : D} {k : Bool} (rp : Rp K cl H al h) (r : RV K H al v d) (e : truD h d = some k) : TruV K v H k := by
  cases r with
  | non => simp only [truD, Option.some.injEq] at e; exact e.symm
  | bl b => simp only [truD, Option.some.injEq] at e; exact e.symm
  | int i => simp only [truD, Option.some.injEq] at e; exact e.symm
  | str x =>
    simp only [truD] at e
    split at e
    · rename_i hl; cases e; exact ⟨hl, rfl⟩
    · cases e
  | tup q r =>
    simp only [truD, Option.some.injEq] at e
    exact .inr (.inl ⟨_, q.elim (fun z => .inl (.inl z.1)) False.elim, by rw [r.isEmpty]; exact e.symm⟩)
  | lst q _ r =>
    simp only [truD, Option.some.injEq] at e
    exact .inl ⟨_, SqL.of q, by rw [r.isEmpty]; exact e.symm⟩
  | @scr a ns q =>
    simp only [truD, Option.some.injEq] at e
    refine .inl ⟨_, q.elim (fun z => .inl z.1) .inr, ?_⟩
    rw [← e]
    cases ns <;> rfl
  | @ref n a q =>
    simp only [truD] at e
    split at e
    · rename_i xs e1
      cases e
      obtain ⟨vs, e2, r⟩ := rp.obj n a _ q e1
      exact .inl ⟨vs, SqL.of e2, by rw [r.isEmpty]⟩
    · rename_i xs e1
      cases e
      obtain ⟨vs, e2, r⟩ := rp.obj n a _ q e1
      refine .inr (.inr ⟨vs, e2, ?_⟩)
      cases r <;> rfl
    · cases e
theorem atI_map {α β : Type} (f : α → β) (xs : List α) (i : Int) : atI (xs.map f) i = (atI xs i).map f := by
  unfold atI
  rw [List.length_map]
  cases ixN xs.length i with
  | none => rfl
  | some j => show (xs.map f)[j]? = _; rw [List.getElem?_map]; rfl
theorem RVs.atI {K : PySem.W.Frag} {H : Hp} {al : Al} {vs : List V} {ds : List D} {i : Int} {d : D} (r : RVs K H al vs ds) (e : L2.atI ds i = some d) : ∃ v, L2.atI vs i = some v ∧ RV K H al v d := by
  unfold L2.atI at e ⊢
  rw [r.length]
  cases z : ixN ds.length i with
  | none => rw [z] at e; cases e
  | some j =>
    rw [z] at e
    exact r.get e
theorem ob_idx (hu : X.A.units + 65 < cLine) : IxR X (L2R X.K cl idxD) := by
  intro value slice pins s sg H x y v u Q I rx ry q hs
  obtain ⟨al, h, dx, dy, d, rp, qx, qy, e, f⟩ := q
  simp only [idxD] at e
  split at e
  · obtain ⟨a, vs, rfl, ha, r⟩ := qx.tupS
    cases qy
    obtain ⟨w', e1, r1⟩ := r.atI e
    exact ix_tup value slice pins s sg H _ _ v u Q I rx ry ⟨a, vs, _, w', rfl, rfl, ha, e1, f.now rp r1⟩ hs
  · obtain ⟨a, vs, rfl, ha, r⟩ := qx.lstS
    cases qy
    obtain ⟨w', e1, r1⟩ := r.atI e
    exact ix_list value slice pins s sg H _ _ v u Q I rx ry ⟨a, vs, _, w', rfl, rfl, SqL.of ha, e1, f.now rp r1⟩ hs
  · rename_i ns i
    obtain ⟨a, rfl, ha⟩ := qx.scrS
    cases qy
    obtain ⟨z, e1, rfl⟩ : ∃ z, atI ns i = some z ∧ D.int z = d := by
      cases z : atI ns i with
      | none => rw [z] at e; cases e
      | some k => rw [z] at e; exact ⟨k, rfl, Option.some.inj e⟩
    exact ix_list value slice pins s sg H _ _ v u Q I rx ry ⟨a, _, _, .int z, rfl, rfl, ha, by rw [atI_map, e1]; rfl, f.now rp (.int z)⟩ hs
  · rename_i z i
    split at e
    · rename_i hl
      cases qx
      cases qy
      obtain ⟨c, e1, rfl⟩ : ∃ c, atI z.cps.toList i = some c ∧ D.str ⟨#[c]⟩ = d := by
        cases z1 : atI z.cps.toList i with
        | none => rw [z1] at e; cases e
        | some k => rw [z1] at e; exact ⟨k, rfl, Option.some.inj e⟩
      exact ix_str value slice pins s sg H _ _ v u Q I rx ry ⟨z, i, c, rfl, rfl, hl, e1, f.now rp (.str _)⟩ hs
    · cases e
  · split at e
    · rename_i n xs e1
      split at e
      · obtain ⟨a, rfl, _, vs, e2, r⟩ := rp.ref qx e1
        cases qy
        obtain ⟨w', e3, r1⟩ := r.atI e
        exact ix_list value slice pins s sg H _ _ v u Q I rx ry ⟨a, vs, _, w', rfl, rfl, SqL.of e2, e3, f.now rp r1⟩ hs
      · cases e
    · obtain ⟨o, e1, e2⟩ := Option.bind_eq_some_iff.mp e
      have e2 : o = some d := e2
      subst e2
      obtain ⟨a, ov, rfl, g, ho⟩ := dget_of rp qx qy e1
      obtain ⟨u', rfl, ru⟩ : ∃ u', ov = some u' ∧ RV X.K H al u' d := by
        rcases ho with ⟨z, _⟩ | ⟨d', u', z, z2, z3⟩
        · cases z
        · cases z; exact ⟨u', z2, z3⟩
      obtain rfl : v = Value.ref a := rx
      exact tail_any (dict_typeIs I g) PySem.F.slot_dict_getitem.lookup (d_getItem (by omega) I g ry fun w2 s' I' r' => ⟨u', H, I', r', f.now rp ru⟩) hs
  · cases e
end
end Cr
/-! Core 3b: calls and methods by values, slices, new lists. -/
namespace Cr
open PySem PySem.Spec PyProof.Rows L2
section
variable {K : PySem.W.Frag} {cl : Nat → Option Addr} {H H' : Hp} {al al' : Al} {h : Hs}
theorem seq_of {v : V} {d : D} {xs : List D} (rp : Rp K cl H al h) (r : RV K H al v d) (e : seqOf h d = some xs) : ∃ p vs, v = .ref p ∧ (SqL K H p vs ∨ SqT K H p vs) ∧ RVs K H al vs xs := by
  cases r with
  | tup q r => cases e; exact ⟨_, _, rfl, .inr (q.elim (fun z => .inl (.inl z.1)) False.elim), r⟩
  | lst q _ r => cases e; exact ⟨_, _, rfl, .inl (SqL.of q), r⟩
  | scr q => cases e; exact ⟨_, _, rfl, .inl (q.elim (fun z => .inl z.1) .inr), RVs.ofInts _⟩
  | @ref n a q =>
    simp only [seqOf] at e
    split at e
    · rename_i ys e1
      cases e
      obtain ⟨vs, e2, r⟩ := rp.obj n a _ q e1
      exact ⟨a, vs, rfl, .inl (SqL.of e2), r⟩
    · cases e
  | _ => cases e
theorem lst_of {v : V} {d : D} {xs : List D} (rp : Rp K cl H al h) (r : RV K H al v d) (e : lstOf h d = some xs) : ∃ p vs, v = .ref p ∧ H p = some (.lst vs) ∧ RVs K H al vs xs := by
  cases r with
  | lst q _ r => cases e; exact ⟨_, _, rfl, q, r⟩
  | @ref n a q =>
    simp only [lstOf] at e
    split at e
    · rename_i ys e1
      cases e
      obtain ⟨vs, e2, r⟩ := rp.obj n a _ q e1
      exact ⟨a, vs, rfl, e2, r⟩
    · cases e
  | _ => cases e
theorem seqOf_lst {d : D} {xs : List D} (e : lstOf h d = some xs) : seqOf h d = some xs := by
  cases d <;> first | exact e | cases e
theorem intsOf_eq : ∀ {xs : List D} {ns : List Int}, intsOf xs = some ns → xs = ns.map D.int
  | [], _, e => by cases e; rfl
  | .int i :: r, _, e => by
    simp only [intsOf] at e
    obtain ⟨ms, e1, e2⟩ := Option.map_eq_some_iff.mp e
    subst e2
    rw [intsOf_eq e1]
    rfl
  | .non :: _, _, e | .bl _ :: _, _, e | .str _ :: _, _, e | .tup _ :: _, _, e | .lst _ :: _, _, e | .ref _ :: _, _, e | .scr _ :: _, _, e => by simp [intsOf] at e
theorem blsOf_eq : ∀ {xs : List D} {ns : List Bool}, blsOf xs = some ns → xs = ns.map D.bl
  | [], _, e => by cases e; rfl
  | .bl i :: r, _, e => by
    simp only [blsOf] at e
    obtain ⟨ms, e1, e2⟩ := Option.map_eq_some_iff.mp e
    subst e2
    rw [blsOf_eq e1]
    rfl
  | .non :: _, _, e | .int _ :: _, _, e | .str _ :: _, _, e | .tup _ :: _, _, e | .lst _ :: _, _, e | .ref _ :: _, _, e | .scr _ :: _, _, e => by simp [blsOf] at e
theorem intsOf_map : ∀ (ns : List Int), intsOf (ns.map D.int) = some ns
  | [] => rfl
  | n :: ns => by simp [intsOf, intsOf_map ns]
theorem blsOf_map : ∀ (ns : List Bool), blsOf (ns.map D.bl) = some ns
  | [] => rfl
  | n :: ns => by simp [blsOf, blsOf_map ns]
/-- by values -/
def LCR (K : PySem.W.Frag) (cl : Nat → Option Addr) (f : Hs → List D → Option D) : List V → Hp → VK → Prop := fun vs H Q => ∃ al h ds d, Rp K cl H al h ∧ RVs K H al vs ds ∧ f h ds = some d ∧ FinE K cl al H h d Q
def Bl.val : Bl → Value
  | .len => .builtin "len" | .int => .type "int" | .tuple => .type "tuple" | .sum => .builtin "sum" | .any => .builtin "any" | .all => .builtin "all" | .abs => .builtin "abs" | .min => .builtin "min" | .max => .builtin "max" | .gcd => .builtin "math.gcd"
theorem RVs.one {vs : List V} {d : D} (r : RVs K H al vs [d]) : ∃ v, vs = [v] ∧ RV K H al v d := by
  cases r with
  | cons r t => cases t; exact ⟨_, rfl, r⟩
theorem RVs.two {vs : List V} {d e : D} (r : RVs K H al vs [d, e]) : ∃ v u, vs = [v, u] ∧ RV K H al v d ∧ RV K H al u e := by
  cases r with
  | cons r t => cases t with | cons q t => cases t; exact ⟨_, _, rfl, r, q⟩
end
section
variable {X : Cx} {cl : Nat → Option Addr}
theorem cb_len : CallR X (.builtin "len") (LCR X.K cl lenD) := by
  intro pins s sg H vs us Q I r q
  obtain ⟨al, h, ds, d, rp, rv, e, f⟩ := q
  unfold lenD at e
  split at e
  · split at e
    · rename_i hl
      cases e
      obtain ⟨v, rfl, r1⟩ := rv.one
      cases r1
      exact call_len pins s sg H _ us Q I r ⟨_, _, rfl, ⟨hl, rfl⟩, f.now rp (.int _)⟩
    · cases e
  · obtain ⟨v, rfl, r1⟩ := rv.one
    obtain ⟨xs, e1, e2⟩ := Option.map_eq_some_iff.mp e
    subst e2
    obtain ⟨p, ws, rfl, hq, r2⟩ := seq_of rp r1 e1
    refine call_len_seq pins s sg H _ us Q I r ⟨p, ws, rfl, hq, ?_⟩
    rw [r2.length]
    exact f.now rp (.int _)
  · cases e
theorem cb_int : CallR X (.type "int") (LCR X.K cl fun _ => intD) := by
  intro pins s sg H vs us Q I r q
  obtain ⟨al, h, ds, d, rp, rv, e, f⟩ := q
  simp only [intD] at e
  split at e
  · obtain ⟨v, rfl, r1⟩ := rv.one
    cases e
    cases r1
    exact call_int1 pins s sg H _ us Q I r (.inl ⟨_, rfl, f.now rp (.int _)⟩)
  · obtain ⟨v, rfl, r1⟩ := rv.one
    cases e
    cases r1
    exact call_int1 pins s sg H _ us Q I r (.inr ⟨_, rfl, f.now rp (.int _)⟩)
  · cases e
theorem cb_tuple : CallR X (.type "tuple") (LCR X.K cl tupleD) := by
  intro pins s sg H vs us Q I r q
  obtain ⟨al, h, ds, d, rp, rv, e, f⟩ := q
  unfold tupleD at e
  split at e
  · obtain ⟨v, rfl, r1⟩ := rv.one
    cases e
    obtain ⟨a, ws, rfl, hq, r2⟩ := r1.tupS
    exact call_tuple_of pins s sg H _ us Q I r ⟨a, ws, rfl, .inr ⟨hq, f.now rp r1⟩⟩
  · obtain ⟨v, rfl, r1⟩ := rv.one
    obtain ⟨xs, e1, e2⟩ := Option.map_eq_some_iff.mp e
    subst e2
    obtain ⟨p, ws, rfl, hq, r2⟩ := lst_of rp r1 e1
    exact call_tuple_of pins s sg H _ us Q I r ⟨p, ws, rfl, .inl ⟨SqL.of hq, f.tup rp r2⟩⟩
  · cases e
theorem cb_sum (hc : X.calm = true) : CallR X (.builtin "sum") (LCR X.K cl sumD) := by
  intro pins s sg H vs us Q I r q
  obtain ⟨al, h, ds, d, rp, rv, e, f⟩ := q
  unfold sumD at e
  split at e
  · obtain ⟨v, rfl, r1⟩ := rv.one
    obtain ⟨xs, e1, e⟩ := Option.bind_eq_some_iff.mp e
    obtain ⟨ns, e2, e3⟩ := Option.map_eq_some_iff.mp e
    subst e3
    obtain ⟨p, ws, rfl, hq, r2⟩ := lst_of rp r1 e1
    rw [intsOf_eq e2] at r2
    have ew := r2.ints
    subst ew
    exact cr_sum hc pins s sg H _ us Q I r ⟨p, ns, rfl, SqL.of hq, f.now rp (.int _)⟩
  · cases e
theorem cb_any (hc : X.calm = true) : CallR X (.builtin "any") (LCR X.K cl anyD) := by
  intro pins s sg H vs us Q I r q
  obtain ⟨al, h, ds, d, rp, rv, e, f⟩ := q
  unfold anyD at e
  split at e
  · obtain ⟨v, rfl, r1⟩ := rv.one
    obtain ⟨xs, e1, e⟩ := Option.bind_eq_some_iff.mp e
    obtain ⟨ns, e2, e3⟩ := Option.map_eq_some_iff.mp e
    subst e3
    obtain ⟨p, ws, rfl, hq, r2⟩ := lst_of rp r1 e1
    rw [blsOf_eq e2] at r2
    have ew := r2.bls
    subst ew
    exact cr_any hc pins s sg H _ us Q I r ⟨p, ns, rfl, SqL.of hq, f.now rp (.bl _)⟩
  · cases e
theorem cb_all (hc : X.calm = true) : CallR X (.builtin "all") (LCR X.K cl allD) := by
  intro pins s sg H vs us Q I r q
  obtain ⟨al, h, ds, d, rp, rv, e, f⟩ := q
  unfold allD at e
  split at e
  · obtain ⟨v, rfl, r1⟩ := rv.one
    obtain ⟨xs, e1, e⟩ := Option.bind_eq_some_iff.mp e
    obtain ⟨ns, e2, e3⟩ := Option.map_eq_some_iff.mp e
    subst e3
    obtain ⟨p, ws, rfl, hq, r2⟩ := lst_of rp r1 e1
    rw [blsOf_eq e2] at r2
    have ew := r2.bls
    subst ew
    exact cr_all hc pins s sg H _ us Q I r ⟨p, ns, rfl, SqL.of hq, f.now rp (.bl _)⟩
  · cases e
theorem cb_abs : CallR X (.builtin "abs") (LCR X.K cl fun _ => absD) := by
  intro pins s sg H vs us Q I r q
  obtain ⟨al, h, ds, d, rp, rv, e, f⟩ := q
  simp only [absD] at e
  split at e
  · obtain ⟨v, rfl, r1⟩ := rv.one
    cases e; cases r1
    exact call_abs pins s sg H _ us Q I r ⟨_, rfl, f.now rp (.int _)⟩
  · cases e
theorem cb_min (hc : X.calm = true) : CallR X (.builtin "min") (LCR X.K cl fun _ => minD) := by
  intro pins s sg H vs us Q I r q
  obtain ⟨al, h, ds, d, rp, rv, e, f⟩ := q
  simp only [minD] at e
  split at e
  · obtain ⟨v, u, rfl, r1, r2⟩ := rv.two
    cases e; cases r1; cases r2
    exact call_min2 hc pins s sg H _ us Q I r ⟨_, _, rfl, f.now rp (.int _)⟩
  · cases e
theorem cb_max (hc : X.calm = true) : CallR X (.builtin "max") (LCR X.K cl fun _ => maxD) := by
  intro pins s sg H vs us Q I r q
  obtain ⟨al, h, ds, d, rp, rv, e, f⟩ := q
  simp only [maxD] at e
  split at e
  · obtain ⟨v, u, rfl, r1, r2⟩ := rv.two
    cases e; cases r1; cases r2
    exact call_max2 hc pins s sg H _ us Q I r ⟨_, _, rfl, f.now rp (.int _)⟩
  · cases e
theorem cb_gcd : CallR X (.builtin "math.gcd") (LCR X.K cl fun _ => gcdD) := by
  intro pins s sg H vs us Q I r q
  obtain ⟨al, h, ds, d, rp, rv, e, f⟩ := q
  simp only [gcdD] at e
  split at e
  · obtain ⟨v, u, rfl, r1, r2⟩ := rv.two
    cases e; cases r1; cases r2
    exact cr_gcd pins s sg H _ us Q I r ⟨_, _, rfl, f.now rp (.int _)⟩
  · cases e
theorem cb_blt (hc : X.calm = true) (b : Bl) : CallR X b.val (LCR X.K cl (bltD b)) := by
  cases b with
  | len => exact cb_len
  | int => exact cb_int
  | tuple => exact cb_tuple
  | sum => exact cb_sum hc
  | any => exact cb_any hc
  | all => exact cb_all hc
  | abs => exact cb_abs
  | min => exact cb_min hc
  | max => exact cb_max hc
  | gcd => exact cb_gcd
def Ty.py : Ty → String
  | .int => "int" | .bool => "bool" | .tuple => "tuple" | .str => "str"
/-- isinstance -/
theorem cb_isi (t : Ty) : CallR X (.builtin "isinstance") (fun vs H Q => ∃ al h d k v, vs = [v, .ty t.py] ∧ Rp X.K cl H al h ∧ RV X.K H al v d ∧ isiD t d = some k ∧ Q (.bl k) H) := by
  intro pins s sg H vs us Q I r q
  obtain ⟨al, h, d, k, v, rfl, rp, r1, e, f⟩ := q
  have tup : ∀ (a : Addr) (ws : List V), SqT X.K H a ws → TyX X.K H (.ref a) (.type "tuple") := fun a ws hq => by
    rcases hq with (z | ⟨o, z⟩) | ⟨o, its, n, k1, k2, _⟩
    · exact .base (.tup z)
    · exact .fTuple z
    · exact .kTuple k1 k2
  cases t <;> cases r1 <;> simp only [isiD, Option.some.injEq] at e <;> first
    | (subst e; exact call_isi pins s sg H _ us Q I r ⟨_, _, _, _, _, rfl, .ty _, .base .non, kit_ty (by decide +kernel), f⟩)
    | (subst e; exact call_isi pins s sg H _ us Q I r ⟨_, _, _, _, _, rfl, .ty _, .base (.bl _), kit_ty (by decide +kernel), f⟩)
    | (subst e; exact call_isi pins s sg H _ us Q I r ⟨_, _, _, _, _, rfl, .ty _, .base (.int _), kit_ty (by decide +kernel), f⟩)
    | (subst e; exact call_isi pins s sg H _ us Q I r ⟨_, _, _, _, _, rfl, .ty _, .base (.str _), kit_ty (by decide +kernel), f⟩)
    | (subst e
       rename_i hq _
       exact call_isi pins s sg H _ us Q I r ⟨_, _, _, _, _, rfl, .ty _, tup _ _ (hq.elim (fun z => .inl (.inl z.1)) False.elim), kit_ty (by decide +kernel), f⟩)
    | cases e
/-! ### methods of lists -/
def LMR (K : PySem.W.Frag) (cl : Nat → Option Addr) (f : Hs → D → List D → Option (D × Hs)) : V → List V → Hp → VK → Prop := fun x vs H Q =>
  ∃ al h dx ds d h', Rp K cl H al h ∧ RV K H al x dx ∧ RVs K H al vs ds ∧ f h dx ds = some (d, h') ∧ FinE K cl al H h' d Q
def Mt.id : Mt → String
  | .append => "list.append" | .extend => "list.extend" | .pop => "list.pop" | .index => "list.index"
theorem FinE.wr {K : PySem.W.Frag} {H : Hp} {al : Al} {h : Hs} {n : Nat} {a : Addr} {vs : List V} {ds : List D} {d : D} {v : V} {Q : VK} (f : FinE K cl al H (h.set n (.lst ds)) d Q) (rp : Rp K cl H al h) (ha : al.r[n]? = some a)
    (r : RVs K H al vs ds) (rv : RV K H al v d) : Q v (upd H a (.lst vs)) := by
  have ma : a ∈ al.r := List.mem_of_getElem? ha
  exact f al _ v (Stp.wr ma) (rp.wr ha ⟨vs, upd_same, r.stp (Stp.wr ma)⟩) (rv.stp (Stp.wr ma))
theorem findD_spec {x : D} : ∀ {ys : List D} {k j : Nat}, findD x k ys = some j → ∃ i, j = k + i ∧ (∃ z, ys[i]? = some z ∧ deq z x = true) ∧ ∀ m z, m < i → ys[m]? = some z → deq z x = false
  | [], _, _, e => by cases e
  | y :: ys, k, j, e => by
    simp only [findD] at e
    split at e
    · rename_i hy
      cases e
      exact ⟨0, rfl, ⟨y, rfl, hy⟩, fun m z hm => absurd hm (Nat.not_lt_zero _)⟩
    · rename_i hy
      obtain ⟨i, e1, ⟨z, e2, e3⟩, e4⟩ := findD_spec e
      refine ⟨i + 1, by omega, ⟨z, e2, e3⟩, fun m z' hm hz => ?_⟩
      cases m with
      | zero =>
        have : y = z' := Option.some.inj hz
        subst this
        exact Bool.eq_false_iff.mpr hy
      | succ m => exact e4 m z' (by omega) hz
theorem DPs_get : ∀ {ys : List D} {i : Nat}, (DPs ys)[i]? = (ys[i]?).map DP
  | [], _ => by simp [DPs]
  | y :: ys, 0 => by simp [DPs]
  | y :: ys, i + 1 => by
    simp only [DPs, List.getElem?_cons_succ]
    exact DPs_get
theorem norefs_get : ∀ {ys : List D} {i : Nat} {z : D}, norefs ys = true → ys[i]? = some z → noref z = true
  | y :: ys, 0, z, h, e => by
    simp only [norefs, Bool.and_eq_true] at h
    cases e
    exact h.1
  | y :: ys, i + 1, z, h, e => by
    simp only [norefs, Bool.and_eq_true] at h
    exact norefs_get h.2 e
  | [], i, z, h, e => by simp at e
theorem flat_get {ys : List D} {i : Nat} {z : D} (h : ys.all flat = true) (e : ys[i]? = some z) : flat z = true := List.all_eq_true.mp h z (List.mem_of_getElem? e)
theorem mb_index (hu : X.A.units + 65 < cLine) {pins : List (Addr × Obj)} {s : Shared} {sg : L2.St} {H : Hp} {a : Addr} {vs ws : List V} {u : Value} {us : List Value} {Q : VK} {al : Al} {xs : List D} {d : D} {k : Nat}
    (I : Inv X pins sg H s) (rx : RelV (.ref a) u) (r : Vals vs us) (ha : H a = some (.lst ws)) (rl : RVs X.K H al ws xs) (rv : RVs X.K H al vs [d])
    (ok : ((flat d && xs.all flat) || (okD d && okD (.lst xs))) = true) (e : findD d 0 xs = some k) (f : Q (.int (k : Nat)) H) : wpAny (model X.prog X.w) X.A (PySem.call (.builtin "list.index") (u :: us)) (EP X pins sg Q) X.xe s := by
  obtain ⟨v, rfl, r1⟩ := rv.one
  obtain ⟨i, ei, ⟨z, ez, hz⟩, hno⟩ := findD_spec e
  have ei : k = i := by omega
  subst ei
  rcases Bool.or_eq_true_iff.mp ok with z0 | z0
  · obtain ⟨z1, z2⟩ := Bool.and_eq_true_iff.mp z0
    obtain ⟨zv, e1, rz⟩ := rl.get ez
    refine mt_index pins s sg H _ _ u us Q I rx r ⟨a, ws, v, k, zv, rfl, rfl, SqL.of ha, flat_of r1 z1, flats_of rl z2, e1, ?_, fun m z' hm hz' => ?_, f⟩
    · rw [eqV_of rz r1 (flat_get z2 ez) z1]
      exact hz
    · obtain ⟨dz, e2, rz'⟩ := rl.getV hz'
      rw [eqV_of rz' r1 (flat_get z2 e2) z1]
      exact hno m dz hm e2
  · obtain ⟨z1, z2⟩ := Bool.and_eq_true_iff.mp z0
    obtain ⟨n1, s1⟩ := okD_ok z1
    obtain ⟨n2, s2⟩ := okD_ok z2
    have n2' : norefs xs = true := by simpa only [noref] using n2
    have s2' : SeqAt.shaped (.list (DPs xs)) = true := by simpa only [DP] using s2
    refine mt_indexD hu pins s sg H _ _ u us Q I rx r ⟨a, v, DP d, DPs xs, k, DP z, rfl, rfl, .lst (SqL.of ha) (rl.dp n2'), r1.dp n1, s2', s1, by rw [DPs_get, ez]; rfl, ?_, fun m z' hm hz' => ?_, f⟩
    · rw [deq_ok (norefs_get n2' ez) n1]
      exact hz
    · rw [DPs_get] at hz'
      obtain ⟨dz, e2, e3⟩ := Option.map_eq_some_iff.mp hz'
      subst e3
      rw [deq_ok (norefs_get n2' e2) n1]
      exact hno m dz hm e2
theorem mb_append : MtR X "list.append" (LMR X.K cl appendD) := by
  intro pins s sg H x vs v us Q I rx r q
  obtain ⟨al, h, dx, ds, d, h', rp, qx, rv, e, f⟩ := q
  unfold appendD at e
  split at e
  · split at e
    · split at e
      · rename_i xs e1
        split at e
        · rename_i hl
          cases e
          obtain ⟨a, rfl, ha, ws, e2, r2⟩ := rp.ref qx e1
          obtain ⟨y, rfl, r3⟩ := rv.one
          exact mt_append pins s sg H _ _ v us Q I rx r ⟨a, ws, y, rfl, rfl, e2, by rw [r2.length]; exact hl, f.wr rp ha (r2.app (.cons r3 .nil)) .non⟩
        · cases e
      · cases e
    · cases e
  · cases e
theorem mb_extend : MtR X "list.extend" (LMR X.K cl extendD) := by
  intro pins s sg H x vs v us Q I rx r q
  obtain ⟨al, h, dx, ds, d, h', rp, qx, rv, e, f⟩ := q
  unfold extendD at e
  split at e
  · split at e
    · split at e
      · rename_i xs e1
        obtain ⟨ys, e4, e⟩ := Option.bind_eq_some_iff.mp e
        split at e
        · rename_i hl
          cases e
          obtain ⟨a, rfl, ha, ws, e2, r2⟩ := rp.ref qx e1
          obtain ⟨y, rfl, r3⟩ := rv.one
          obtain ⟨b, zs, rfl, e3, r4⟩ := lst_of rp r3 e4
          exact mt_extend pins s sg H _ _ v us Q I rx r ⟨a, b, ws, zs, rfl, rfl, e2, e3, by rw [r2.length, r4.length]; exact hl, f.wr rp ha (r2.app r4) .non⟩
        · cases e
      · cases e
    · cases e
  · cases e
theorem mb_pop : MtR X "list.pop" (LMR X.K cl popD) := by
  intro pins s sg H x vs v us Q I rx r q
  obtain ⟨al, h, dx, ds, d, h', rp, qx, rv, e, f⟩ := q
  unfold popD at e
  split at e
  · split at e
    · split at e
      · rename_i y xs e1
        cases e
        obtain ⟨a, rfl, ha, ws, e2, r2⟩ := rp.ref qx e1
        obtain ⟨y', rfl, r3⟩ := rv.one
        cases r3
        cases r2 with
        | @cons w1 ws _ _ r4 r5 =>
          exact mt_popAt pins s sg H _ _ v us Q I rx r ⟨a, w1 :: ws, 0, 0, w1, rfl, rfl, e2, by decide, by decide, by simp [seqIndex?], rfl, f.wr rp ha r5 r4⟩
      · cases e
    · cases e
  · cases e
theorem mb_ix (hu : X.A.units + 65 < cLine) : MtR X "list.index" (LMR X.K cl indexD) := by
  intro pins s sg H x vs v us Q I rx r q
  obtain ⟨al, h, dx, ds, d, h', rp, qx, rv, e, f⟩ := q
  unfold indexD at e
  split at e
  · obtain ⟨xs, e1, e⟩ := Option.bind_eq_some_iff.mp e
    split at e
    · rename_i ok
      obtain ⟨k, e3, e4⟩ := Option.map_eq_some_iff.mp e
      cases e4
      obtain ⟨a, ws, rfl, e2, r2⟩ := lst_of rp qx e1
      exact mb_index hu I rx r e2 r2 rv ok e3 (f.now rp (.int _))
    · cases e
  · cases e
theorem mb_mth (hu : X.A.units + 65 < cLine) (m : Mt) : MtR X m.id (LMR X.K cl (mthD m)) := by
  cases m with
  | append => exact mb_append
  | extend => exact mb_extend
  | pop => exact mb_pop
  | index => exact mb_ix hu
end
end Cr
/-! Core 4: the readings of core terms; the rules, construct by construct. -/
namespace Cr
open PySem PySem.Spec PyProof.Rows L2
section
variable (K : PySem.W.Frag) (cl : Nat → Option Addr)
def FinA (al : Al) (H : Hp) (h : Hs) (ds : List D) (Q : List V → Hp → Prop) : Prop := ∀ al' H' vs, Stp al H al' H' → Rp K cl H' al' h → RVs K H' al' vs ds → Q vs H'
def LA (m : S → Hs → Option (List D × Hs)) : TA := fun sg H Q => ∃ al se h ds h', Stt K cl sg H al se h ∧ m se h = some (ds, h') ∧ FinA K cl al H h' ds Q
def FinT (al : Al) (H : Hp) (h : Hs) (k : Bool) (Q : Bool → Hp → Prop) : Prop := ∀ al' H', Stp al H al' H' → Rp K cl H' al' h → Q k H'
def LT (m : S → Hs → Option (Bool × Hs)) : TT := fun sg H Q => ∃ al se h k h', Stt K cl sg H al se h ∧ m se h = some (k, h') ∧ FinT K cl al H h' k Q
def LO (m : S → Hs → Option (Option Int × Hs)) : TO := fun sg H Q => ∃ al se h o h', Stt K cl sg H al se h ∧ m se h = some (o, h') ∧ ∀ al' H', Stp al H al' H' → Rp K cl H' al' h' → Q o H'
def FinF (al : Al) (H : Hp) (h : Hs) (ds : List D) (Q : VK) : Prop := ∀ al' H' p vs, Stp al H al' H' → Rp K cl H' al' h → p ∈ al'.x → H p = none → H' p = some (.lst vs) → RVs K H' al' vs ds → Q (.ref p) H'
def LF (m : S → Hs → Option (List D × Hs)) : TE := fun sg H Q => ∃ al se h ds h', Stt K cl sg H al se h ∧ m se h = some (ds, h') ∧ FinF K cl al H h' ds Q
/-- what the walker yields at each turn -/
def Wk (J : It) (al : Al) (H : Hp) (it : IT) : Prop := ∀ i al1 H1 h1, Stp al H al1 H1 → Rp K cl H1 al1 h1 → it.st h1 →
  (∀ d, it.xs[i]? = some d → J.go i H1 ∧ ∀ x H', J.yld i H1 x H' → (∀ b o, H1 b = some o → H' b = some o) ∧ RV K H' al1 x d) ∧ (it.xs.length ≤ i → J.stop i H1)
def LI (m : S → Hs → Option (IT × Hs)) : TI := fun sg H R => ∃ al se h it h', Stt K cl sg H al se h ∧ m se h = some (it, h') ∧ ∀ al' H' J, Stp al H al' H' → Rp K cl H' al' h' → Wk K cl J al' H' it → R J H'
def FinS (al : Al) (H : Hp) (r : Fl) (se : S) (h : Hs) (E : Ends) : Prop := match r with
  | .nx => ∀ al' H' sg', Stp al H al' H' → Stt K cl sg' H' al' se h → E.nx sg' H'
  | .bk => ∀ al' H' sg', Stp al H al' H' → Stt K cl sg' H' al' se h → E.bk sg' H'
  | .ct => ∀ al' H' sg', Stp al H al' H' → Stt K cl sg' H' al' se h → E.ct sg' H'
  | .rt d => ∀ al' H' v, Stp al H al' H' → Rp K cl H' al' h → RV K H' al' v d → E.rt v H'
def LS (m : MS) : TS := fun E sg H => ∃ al se h r, Stt K cl sg H al se h ∧ m se h = some r ∧ FinS K cl al H r.1 r.2.1 r.2.2 E
def spOf (np : Nat) (m : List D → Hs → Option (D × Hs)) : Sp := fun vs H Q _ => vs.length = np ∧ ∃ al h ds d h', Rp K cl H al h ∧ RVs K H al vs ds ∧ m ds h = some (d, h') ∧ FinE K cl al H h' d Q
end
section
variable {K : PySem.W.Frag} {cl : Nat → Option Addr} {H H' : Hp} {al al' : Al} {sg : L2.St} {se : S} {h h' : Hs}
theorem LA.use {m : S → Hs → Option (List D × Hs)} {Q : List V → Hp → Prop} {ds : List D} (st : Stt K cl sg H al se h) (e : m se h = some (ds, h'))
    (k : ∀ al1 H1 vs, Stp al H al1 H1 → Stt K cl sg H1 al1 se h' → RVs K H1 al1 vs ds → Q vs H1) : LA K cl m sg H Q :=
  ⟨al, se, h, ds, h', st, e, fun al' H' v s r q => k al' H' v s ⟨st.rs.stp s, r⟩ q⟩
theorem LT.use {m : S → Hs → Option (Bool × Hs)} {Q : Bool → Hp → Prop} {b : Bool} (st : Stt K cl sg H al se h) (e : m se h = some (b, h'))
    (k : ∀ al1 H1, Stp al H al1 H1 → Stt K cl sg H1 al1 se h' → Q b H1) : LT K cl m sg H Q :=
  ⟨al, se, h, b, h', st, e, fun al' H' s r => k al' H' s ⟨st.rs.stp s, r⟩⟩
theorem LO.use {m : S → Hs → Option (Option Int × Hs)} {Q : Option Int → Hp → Prop} {b : Option Int} (st : Stt K cl sg H al se h) (e : m se h = some (b, h'))
    (k : ∀ al1 H1, Stp al H al1 H1 → Stt K cl sg H1 al1 se h' → Q b H1) : LO K cl m sg H Q :=
  ⟨al, se, h, b, h', st, e, fun al' H' s r => k al' H' s ⟨st.rs.stp s, r⟩⟩
theorem FinA.stp {ds : List D} {Q : List V → Hp → Prop} (f : FinA K cl al H h ds Q) (s : Stp al H al' H') : FinA K cl al' H' h ds Q := fun al2 H2 v s2 r q => f al2 H2 v (s.trans s2) r q
theorem FinT.stp {k : Bool} {Q : Bool → Hp → Prop} (f : FinT K cl al H h k Q) (s : Stp al H al' H') : FinT K cl al' H' h k Q := fun al2 H2 s2 r => f al2 H2 (s.trans s2) r
theorem FinT.now {k : Bool} {Q : Bool → Hp → Prop} (f : FinT K cl al H h k Q) (rp : Rp K cl H al h) : Q k H := f al H (Stp.refl _ _) rp
theorem FinA.now {ds : List D} {vs : List V} {Q : List V → Hp → Prop} (f : FinA K cl al H h ds Q) (rp : Rp K cl H al h) (r : RVs K H al vs ds) : Q vs H := f al H vs (Stp.refl _ _) rp r
theorem FinF.stp {ds : List D} {Q : VK} (f : FinF K cl al H h ds Q) (s : Stp al H al' H') (n : ∀ p, H' p = none → H p = none) : FinF K cl al' H' h ds Q := fun al2 H2 p vs s2 r px hp q1 q2 => f al2 H2 p vs (s.trans s2) r px (n p hp) q1 q2
theorem FinS.stp {r : Fl} {E : Ends} (f : FinS K cl al H r se h E) (s : Stp al H al' H') : FinS K cl al' H' r se h E := by
  cases r with
  | rt d => exact fun al2 H2 v s2 r q => f al2 H2 v (s.trans s2) r q
  | _ => exact fun al2 H2 sg' s2 q => f al2 H2 sg' (s.trans s2) q
/-- what is free later was free before: unless it is a changed thing -/
theorem Stp.none (s : Stp al H al' H') (rp : Rp K cl H al h) (rp' : Rp K cl H' al' h') {p : Addr} (hp : H' p = none) : H p = none := by
  cases q : H p with
  | none => rfl
  | some o =>
    by_cases m : p ∈ al.r
    · obtain ⟨u, hu⟩ := rp'.there (s.sub m)
      rw [hp] at hu; cases hu
    · rw [s.kp p o q m] at hp; cases hp
/-- a new list just laid -/
theorem FinF.new {ds : List D} {vs : List V} {Q : VK} (f : FinF K cl al H h ds Q) (rp : Rp K cl H al h) (r : RVs K H al vs ds) : ∀ p, H p = none → Q (.ref p) (upd H p (.lst vs)) := fun p hp =>
  f (al.hide p) _ p vs (Stp.hide hp) (rp.hid hp) List.mem_cons_self hp upd_same ((r.hid hp).stp (Stp.grow (same_upd hp)))
theorem LE.ofF {m : S → Hs → Option (List D × Hs)} {Q : VK} (i : LE K cl (fun se h => (m se h).map fun p => (.lst p.1, p.2)) sg H Q) : LF K cl m sg H Q := by
  obtain ⟨al, se, h, d, h', st, e, f⟩ := i
  obtain ⟨⟨ds, h2⟩, e1, e2⟩ := Option.map_eq_some_iff.mp e
  cases e2
  exact ⟨al, se, h, ds, _, st, e1, fun al' H' p vs s rp px hp e3 r => f (al'.drop p) H' (.ref p) (s.drop (st.rp.free hp).2) (rp.open p)
    (.lst e3 ⟨(rp.ex p px).1, fun z => of_decide_eq_true (List.mem_filter.mp z).2 rfl⟩ r.open)⟩
theorem LE.ofFB {m : S → Hs → Option (List D × Hs)} {Q : VK} (i : LE K cl (fun se h => (m se h).map fun p => (.ref p.2.length, p.2 ++ [.lst p.1])) sg H Q) : LF K cl m sg H Q := by
  obtain ⟨al, se, h, d, h', st, e, f⟩ := i
  obtain ⟨⟨ds, h2⟩, e1, e2⟩ := Option.map_eq_some_iff.mp e
  cases e2
  refine ⟨al, se, h, ds, _, st, e1, fun al' H' p vs s rp px hp e3 r => ?_⟩
  have rl : al'.r.length = h2.length := rp.len
  refine f (al'.more p) H' (.ref p) (s.more hp (st.rp.free hp).2) (rp.unhide px ⟨vs, e3, r.unhide px⟩) (.ref ?_)
  show (al'.r ++ [p])[h2.length]? = some p
  rw [← rl, List.getElem?_append_right (Nat.le_refl _), Nat.sub_self]
  rfl
end
/-- what stands around a text of core -/
structure Ctx (T : Tb) (cl : Nat → Option Addr) (X : Cx) (N : List Str) (sc : Scope) (n : Nat) : Prop where
  hN : X.N = N
  nd : N.Nodup
  scp : X.env.scope = sc
  calm : X.calm = true
  room : Room n X.A
  fns : ∀ (f : Nat) (d : Df), T.P[f]? = some d → d.meth = false → ∃ (a : Addr) (fd : FuncData), X.mg d.nm = some (.ref a) ∧ PySem.W.keepIn X.K (.ref a) = true ∧ Binds X.K fd d.ps [] ∧
    FnOk X.prog X.w X.K X.mg X.base CX0 n a fd d.ps (spOf X.K cl d.ps.length (call T n f))
  glb : ∀ (i : Nat) (p : Str × D), T.G[i]? = some p → ∃ v u, X.mg p.1 = some u ∧ RelV v u ∧ ∀ H al, RV X.K H al v p.2
  blt : ∀ x ∈ T.B, X.mg x = none
  gcd : T.gcd = true → X.mg "gcd" = some (.builtin "math.gcd")
  cls : ∀ (C : Nat) (c : Cd), T.Cs[C]? = some c → ∃ A : Addr, cl C = some A ∧ Cls X.K A ∧ (∀ f ∈ c.fs, NoAttr X.K A f) ∧
    (∀ p ∈ c.ms, ∃ (a : Addr) (fd : FuncData) (d : Df), T.P[p.2]? = some d ∧ Meth X.K A p.1 a ∧ Binds X.K fd d.ps [] ∧ FnOk X.prog X.w X.K X.mg X.base CX0 n a fd d.ps (spOf X.K cl d.ps.length (call T n p.2))) ∧
    ∃ (a : Addr) (fd : FuncData) (d : Df), T.P[c.ini]? = some d ∧ X.mg c.nm = some (.ref A) ∧ Mk X.K A a ∧ Binds X.K fd d.ps [] ∧ FnOk X.prog X.w X.K X.mg X.base CX0 (n - 1) a fd d.ps (spOf X.K cl d.ps.length (call T (n - 1) c.ini))
theorem Ctx.hu {T : Tb} {cl : Nat → Option Addr} {X : Cx} {N : List Str} {sc : Scope} {n : Nat} (c : Ctx T cl X N sc n) : X.A.units + 65 < cLine := by have := c.room.un; omega

/-! ### the letters' side conditions -/
theorem star_ok {e : Expr} {es : List Expr} {env : Env} (h : notStar e = true) : starEach (e :: es) env = (false, eval e env) :: starEach es env := by
  cases e <;> first | rfl | cases h
theorem stars_ok {T : Tb} {N : List Str} {sc : Scope} {env : Env} {pos : Pos} : ∀ {es : List Expr} {a : CA}, kA T N sc a es = true → (backTo pos (starEach es env)).any (·.1) = false
  | [], _, _ => rfl
  | e :: es, a, h => by
    cases a with
    | nil => simp [kA] at h
    | cons ce ca =>
      simp only [kA, Bool.and_eq_true] at h
      rw [star_ok h.1.1]
      have ih := stars_ok (pos := pos) (env := env) h.2
      unfold backTo at ih ⊢
      rw [List.map_cons, List.any_cons, ih]
      rfl
theorem fold_ok {e : Expr} {env : Env} (h : notSet e = true) : ∀ x, foldedSetIterable e env x = pure x := by
  intro x
  cases e <;> first | rfl | cases h
theorem plain_ok {e : Expr} (h : plainIx e = true) : PlainIx e := by
  intro o i
  cases e <;> first | rfl | cases h
theorem visB_ok {sc : Scope} {x : Str} (h : visB sc x = true) : Vis sc x := by
  unfold visB at h
  unfold Vis
  split at h <;> first | (rename_i e; exact .inl e) | (rename_i e; exact .inr (.inl e)) | (rename_i e; exact .inr (.inr e)) | cases h
theorem locB_ok {sc : Scope} {x : Str} (h : locB sc x = true) : L2.Loc sc x := by
  unfold locB at h
  unfold L2.Loc
  split at h <;> first | (rename_i e; exact .inl e) | (rename_i e; exact .inr e) | cases h
theorem glB_ok {sc : Scope} {x : Str} (h : glB sc x = true) : sc.names.lookup x = some .globalImplicit := by
  unfold glB at h
  split at h
  · assumption
  · cases h
theorem nameOk_ok {x : Str} (h : nameOk x = true) : (x == ("__debug__" : Str)) = false ∧ (x == ("__classdict__" : Str)) = false ∧ x ≠ "__name__" := by
  unfold nameOk at h
  simp only [Bool.and_eq_true, Bool.not_eq_true', decide_eq_false_iff_not] at h
  exact ⟨h.1.1, h.1.2, h.2⟩
section
variable {T : Tb} {cl : Nat → Option Addr} {X : Cx} {N : List Str} {sc : Scope} {n : Nat} {a b : Expr} {pos p : Pos} {ma mb : ME}
theorem Ctx.gl (c : Ctx T cl X N sc n) {x : Str} (h : glB sc x = true) : Gl X x := by
  show X.env.scope.names.lookup x = some .globalImplicit
  rw [c.scp]
  exact glB_ok h
/-! ### expressions -/
theorem r_var (c : Ctx T cl X N sc n) {i : Nat} {x : Str} (h1 : N[i]? = some x) (h2 : visB sc x = true) (h3 : nameOk x = true) :
    PE X (.Name x pos) (LE X.K cl fun se h => match se[i]? with | some (some d) => some (d, h) | _ => none) := by
  obtain ⟨n1, n2, n3⟩ := nameOk_ok h3
  refine PE.imp (pe_var (i := i) (by rw [c.hN]; exact h1) (by rw [c.scp]; exact visB_ok h2) n1 n2) fun sg H Q ⟨al, se, h, d, h', st, e, f⟩ => ?_
  dsimp only at e
  split at e
  · rename_i d0 e0
    cases e
    obtain ⟨v, e1, r⟩ := st.rs.at_ i _ e0
    exact ⟨v, e1, f.now st.rp r⟩
  · cases e
theorem r_cst {d : D} {k : Const} {j : Nat} (h : cstB d k = true) : PE X (.Constant k j pos) (LE X.K cl fun _ h => some (d, h)) := by
  cases d <;> cases k <;> first
    | (simp only [cstB] at h; cases h; done)
    | exact PE.imp pe_non fun sg H Q ⟨al, se, h, d, h', st, e, f⟩ => by cases e; exact f.now st.rp .non
    | (simp only [cstB, beq_iff_eq] at h; subst h; exact PE.imp pe_bl fun sg H Q ⟨al, se, h, d, h', st, e, f⟩ => by cases e; exact f.now st.rp (.bl _))
    | (simp only [cstB, decide_eq_true_eq] at h; subst h; exact PE.imp pe_int fun sg H Q ⟨al, se, h, d, h', st, e, f⟩ => by cases e; exact f.now st.rp (.int _))
    | (simp only [cstB, decide_eq_true_eq] at h; subst h; exact PE.imp pe_str fun sg H Q ⟨al, se, h, d, h', st, e, f⟩ => by cases e; exact f.now st.rp (.str _))
theorem r_glb (c : Ctx T cl X N sc n) {i : Nat} {q : Str × D} (h1 : T.G[i]? = some q) (h2 : glB sc q.1 = true) (h3 : nameOk q.1 = true) :
    PE X (.Name q.1 pos) (LE X.K cl fun _ h => ((cn T n).G i).map fun d => (d, h)) := by
  obtain ⟨n1, n2, n3⟩ := nameOk_ok h3
  obtain ⟨v, u, e1, e2, e3⟩ := c.glb i q h1
  refine PE.imp (pe_glob (c.gl h2) e1 e2 n1) fun sg H Q ⟨al, se, h, d, h', st, e, f⟩ => ?_
  have e' : ((T.G[i]?).map (·.2)).map (fun d => (d, h)) = some (d, h') := e
  rw [h1] at e'
  cases e'
  exact f.now st.rp (e3 H al)
theorem r_bin {op : Operator} (ha : PE X a (LE X.K cl ma)) (hb : PE X b (LE X.K cl mb)) :
    PE X (.BinOp a op b pos) (LE X.K cl fun se h => (ma se h).bind fun p => (mb se p.2).bind fun q => (binD op p.1 q.1).map fun d => (d, q.2)) := by
  refine PE.imp (pe_op (ob_bin (cl := cl) op) ha hb) fun sg H Q ⟨al, se, h, d, h', st, e, f⟩ => ?_
  obtain ⟨⟨x, h1⟩, e1, e⟩ := Option.bind_eq_some_iff.mp e
  obtain ⟨⟨y, h2⟩, e2, e⟩ := Option.bind_eq_some_iff.mp e
  obtain ⟨z, e3, e⟩ := Option.map_eq_some_iff.mp e
  cases e
  exact LE.use st e1 fun al1 H1 v s1 st1 r1 => LE.use st1 e2 fun al2 H2 u s2 st2 r2 => ⟨al2, _, x, y, d, st2.rp, r1.stp s2, r2, e3, f.stp (s1.trans s2)⟩
theorem r_neg (ha : PE X a (LE X.K cl ma)) : PE X (.UnaryOp .USub a pos) (LE X.K cl fun se h => (ma se h).bind fun p => match p.1 with | .int i => some (.int (-i), p.2) | _ => none) := by
  refine PE.imp (pe_un un_neg ha) fun sg H Q ⟨al, se, h, d, h', st, e, f⟩ => ?_
  obtain ⟨⟨x, h1⟩, e1, e⟩ := Option.bind_eq_some_iff.mp e
  simp only at e
  split at e
  · cases e
    refine LE.use st e1 fun al1 H1 v s1 st1 r1 => ?_
    cases r1
    exact ⟨_, rfl, (f.stp s1).now st1.rp (.int _)⟩
  · cases e
theorem r_cmp (c : Ctx T cl X N sc n) {op : CmpOp} (hm : behindInMarks op b = false) (ha : PE X a (LE X.K cl ma)) (hb : PE X b (LE X.K cl mb)) :
    PE X (.Compare a [op] [b] pos) (LE X.K cl fun se h => (ma se h).bind fun p => (mb se p.2).bind fun q => (cmpD op q.2 p.1 q.1).map fun k => (.bl k, q.2)) := by
  refine PE.imp (pe_cmpR (ob_cmp (cl := cl) c.hu op) ha hb hm) fun sg H Q ⟨al, se, h, d, h', st, e, f⟩ => ?_
  obtain ⟨⟨x, h1⟩, e1, e⟩ := Option.bind_eq_some_iff.mp e
  obtain ⟨⟨y, h2⟩, e2, e⟩ := Option.bind_eq_some_iff.mp e
  obtain ⟨z, e3, e⟩ := Option.map_eq_some_iff.mp e
  cases e
  exact LE.use st e1 fun al1 H1 v s1 st1 r1 => LE.use st1 e2 fun al2 H2 u s2 st2 r2 => ⟨al2, _, x, y, _, st2.rp, r1.stp s2, r2, by show (cmpD op h2 x y).map D.bl = _; rw [e3]; rfl, f.stp (s1.trans s2)⟩
theorem r_tcmp (c : Ctx T cl X N sc n) {op : CmpOp} (hm : behindInMarks op b = false) (ha : PE X a (LE X.K cl ma)) (hb : PE X b (LE X.K cl mb)) :
    PT X (.Compare a [op] [b] pos) (LT X.K cl fun se h => (ma se h).bind fun p => (mb se p.2).bind fun q => (cmpD op q.2 p.1 q.1).map fun k => (k, q.2)) := by
  refine PT.imp (pt_cmpR (ob_cmp (cl := cl) c.hu op) ha hb hm) fun sg H Q ⟨al, se, h, d, h', st, e, f⟩ => ?_
  obtain ⟨⟨x, h1⟩, e1, e⟩ := Option.bind_eq_some_iff.mp e
  obtain ⟨⟨y, h2⟩, e2, e⟩ := Option.bind_eq_some_iff.mp e
  obtain ⟨z, e3, e⟩ := Option.map_eq_some_iff.mp e
  cases e
  refine LE.use st e1 fun al1 H1 v s1 st1 r1 => LE.use st1 e2 fun al2 H2 u s2 st2 r2 => ⟨al2, _, x, y, _, st2.rp, r1.stp s2, r2, by show (cmpD op h2 x y).map D.bl = _; rw [e3]; rfl, fun al3 H3 w' s3 rp3 r3 => ?_⟩
  cases r3
  exact ⟨_, rfl, f al3 H3 ((s1.trans s2).trans s3) rp3⟩
theorem r_and {rest : List Expr} (ha : PE X a (LE X.K cl ma)) (hb : PE X (.BoolOp .And (b :: rest) pos) (LE X.K cl mb)) :
    PE X (.BoolOp .And (a :: b :: rest) pos) (LE X.K cl fun se h => (ma se h).bind fun p => (truD p.2 p.1).bind fun k => match k with | true => mb se p.2 | false => some p) := by
  refine PE.imp (pe_andT ha hb) fun sg H Q ⟨al, se, h, d, h', st, e, f⟩ => ?_
  obtain ⟨⟨x, h1⟩, e1, e⟩ := Option.bind_eq_some_iff.mp e
  obtain ⟨k, e2, e⟩ := Option.bind_eq_some_iff.mp e
  refine LE.use st e1 fun al1 H1 v s1 st1 r1 => ⟨k, truV_of st1.rp r1 e2, ?_⟩
  cases k with
  | true => exact ite_tt (LE.use st1 e fun al2 H2 u s2 st2 r2 => f al2 H2 u (s1.trans s2) st2.rp r2)
  | false =>
    cases e
    exact ite_ff ((f.stp s1).now st1.rp r1)
theorem r_or {rest : List Expr} (ha : PE X a (LE X.K cl ma)) (hb : PE X (.BoolOp .Or (b :: rest) pos) (LE X.K cl mb)) :
    PE X (.BoolOp .Or (a :: b :: rest) pos) (LE X.K cl fun se h => (ma se h).bind fun p => (truD p.2 p.1).bind fun k => match k with | true => some p | false => mb se p.2) := by
  refine PE.imp (pe_orT ha hb) fun sg H Q ⟨al, se, h, d, h', st, e, f⟩ => ?_
  obtain ⟨⟨x, h1⟩, e1, e⟩ := Option.bind_eq_some_iff.mp e
  obtain ⟨k, e2, e⟩ := Option.bind_eq_some_iff.mp e
  refine LE.use st e1 fun al1 H1 v s1 st1 r1 => ⟨k, truV_of st1.rp r1 e2, ?_⟩
  cases k with
  | false => exact ite_ff (LE.use st1 e fun al2 H2 u s2 st2 r2 => f al2 H2 u (s1.trans s2) st2.rp r2)
  | true =>
    cases e
    exact ite_tt ((f.stp s1).now st1.rp r1)
theorem r_not (ha : PE X a (LE X.K cl ma)) : PE X (.UnaryOp .Not a pos) (LE X.K cl fun se h => (ma se h).bind fun p => (truD p.2 p.1).map fun k => (.bl (!k), p.2)) := by
  refine PE.imp (pe_notT ha) fun sg H Q ⟨al, se, h, d, h', st, e, f⟩ => ?_
  obtain ⟨⟨x, h1⟩, e1, e⟩ := Option.bind_eq_some_iff.mp e
  obtain ⟨k, e2, e⟩ := Option.map_eq_some_iff.mp e
  cases e
  exact LE.use st e1 fun al1 H1 v s1 st1 r1 => ⟨k, truV_of st1.rp r1 e2, (f.stp s1).now st1.rp (.bl _)⟩
theorem r_ife {e0 : Expr} {mt : S → Hs → Option (Bool × Hs)} (ht : PT X e0 (LT X.K cl mt)) (ha : PE X a (LE X.K cl ma)) (hb : PE X b (LE X.K cl mb)) :
    PE X (.IfExp e0 a b pos) (LE X.K cl fun se h => (mt se h).bind fun p => match p.1 with | true => ma se p.2 | false => mb se p.2) := by
  refine PE.imp (pe_ifExp ht ha hb) fun sg H Q ⟨al, se, h, d, h', st, e, f⟩ => ?_
  obtain ⟨⟨k, h1⟩, e1, e⟩ := Option.bind_eq_some_iff.mp e
  refine LT.use st e1 fun al1 H1 s1 st1 => ?_
  cases k with
  | true => exact ite_tt (LE.use st1 e fun al2 H2 u s2 st2 r2 => f al2 H2 u (s1.trans s2) st2.rp r2)
  | false => exact ite_ff (LE.use st1 e fun al2 H2 u s2 st2 r2 => f al2 H2 u (s1.trans s2) st2.rp r2)
theorem r_nil : PA X [] (LA X.K cl fun _ h => some ([], h)) := PA.imp pa_nil fun sg H Q ⟨al, se, h, d, h', st, e, f⟩ => by cases e; exact f.now st.rp .nil
theorem r_cons {es : List Expr} {mr : S → Hs → Option (List D × Hs)} (h0 : notStar a = true) (ha : PE X a (LE X.K cl ma)) (hr : PA X es (LA X.K cl mr)) :
    PA X (a :: es) (LA X.K cl fun se h => (ma se h).bind fun p => (mr se p.2).map fun q => (p.1 :: q.1, q.2)) := by
  refine PA.imp (pa_cons ha hr (star_ok h0)) fun sg H Q ⟨al, se, h, d, h', st, e, f⟩ => ?_
  obtain ⟨⟨x, h1⟩, e1, e⟩ := Option.bind_eq_some_iff.mp e
  obtain ⟨⟨xs, h2⟩, e2, e⟩ := Option.map_eq_some_iff.mp e
  cases e
  exact LE.use st e1 fun al1 H1 v s1 st1 r1 => LA.use st1 e2 fun al2 H2 vs s2 st2 r2 => f al2 H2 (v :: vs) (s1.trans s2) st2.rp (.cons (r1.stp s2) r2)
theorem r_tup {es : List Expr} {x1 : Nat} {mr : S → Hs → Option (List D × Hs)} (hr : PA X es (LA X.K cl mr)) :
    PE X (.Tuple es x1 pos) (LE X.K cl fun se h => (mr se h).bind fun p => if p.1.length ≤ sizeLine then some (.tup p.1, p.2) else none) := by
  refine PE.imp (pe_tup hr) fun sg H Q ⟨al, se, h, d, h', st, e, f⟩ => ?_
  obtain ⟨⟨xs, h1⟩, e1, e⟩ := Option.bind_eq_some_iff.mp e
  split at e
  · rename_i hl
    cases e
    exact LA.use st e1 fun al1 H1 vs s1 st1 r1 => ⟨by rw [r1.length]; exact hl, (f.stp s1).tup st1.rp r1⟩
  · cases e
theorem r_disp {es : List Expr} {mr : S → Hs → Option (List D × Hs)} (hr : PA X es (LA X.K cl mr)) :
    PE X (.List es pos) (LF X.K cl fun se h => (mr se h).bind fun p => if p.1.length ≤ sizeLine then some p else none) := by
  refine PE.imp (pe_lst hr) fun sg H Q ⟨al, se, h, d, h', st, e, f⟩ => ?_
  obtain ⟨⟨xs, h1⟩, e1, e⟩ := Option.bind_eq_some_iff.mp e
  split at e
  · rename_i hl
    cases e
    exact LA.use st e1 fun al1 H1 vs s1 st1 r1 => ⟨by rw [r1.length]; exact hl, (f.stp s1 fun p => s1.none st.rp st1.rp).new st1.rp r1⟩
  · cases e
theorem r_idx (c : Ctx T cl X N sc n) (h0 : plainIx b = true) (ha : PE X a (LE X.K cl ma)) (hb : PE X b (LE X.K cl mb)) :
    PE X (.Subscript a b pos) (LE X.K cl fun se h => (ma se h).bind fun p => (mb se p.2).bind fun q => (idxD q.2 p.1 q.1).map fun d => (d, q.2)) := by
  refine PE.imp (pe_ix (ob_idx (cl := cl) c.hu) ha hb (plain_ok h0)) fun sg H Q ⟨al, se, h, d, h', st, e, f⟩ => ?_
  obtain ⟨⟨x, h1⟩, e1, e⟩ := Option.bind_eq_some_iff.mp e
  obtain ⟨⟨y, h2⟩, e2, e⟩ := Option.bind_eq_some_iff.mp e
  obtain ⟨z, e3, e⟩ := Option.map_eq_some_iff.mp e
  cases e
  exact LE.use st e1 fun al1 H1 v s1 st1 r1 => LE.use st1 e2 fun al2 H2 u s2 st2 r2 => ⟨al2, _, x, y, d, st2.rp, r1.stp s2, r2, e3, f.stp (s1.trans s2)⟩
theorem r_no : PO X none (LO X.K cl fun _ h => some (none, h)) := by
  refine ⟨fun pins s sg H Q I h => po_none.run pins s sg H Q I ?_⟩
  obtain ⟨al, se, hh, d, h', st, e, f⟩ := h
  cases e
  exact f al H (Stp.refl _ _) st.rp
theorem r_yes (ha : PE X a (LE X.K cl ma)) : PO X (some a) (LO X.K cl fun se h => (ma se h).bind fun p => match p.1 with | .int i => some (some i, p.2) | _ => none) := by
  refine ⟨fun pins s sg H Q I h => (po_some ha).run pins s sg H Q I ?_⟩
  obtain ⟨al, se, hh, d, h', st, e, f⟩ := h
  obtain ⟨⟨x, h1⟩, e1, e⟩ := Option.bind_eq_some_iff.mp e
  simp only at e
  split at e
  · cases e
    refine LE.use st e1 fun al1 H1 v s1 st1 r1 => ?_
    cases r1
    exact ⟨_, rfl, f al1 H1 s1 st1.rp⟩
  · cases e
theorem RVs.cut {K : PySem.W.Frag} {H : Hp} {al : Al} {vs : List V} {ds : List D} (r : RVs K H al vs ds) (lo hi : Option Int) : RVs K H al (cutV vs lo hi) (cutD ds lo hi) := by
  unfold cutV cutD
  rw [r.length]
  exact (r.drop _).take _
theorem RVs.cutAll {K : PySem.W.Frag} {H : Hp} {al : Al} {vs : List V} {ds : List D} {y z : Option Int} (r : RVs K H al vs ds) (z0 : HT.sIx vs.length 0 y = 0 ∧ HT.sIx vs.length vs.length z = vs.length) : cutD ds y z = ds := by
  have el := r.length
  unfold cutD
  rw [← el, z0.1, z0.2, List.drop_zero, Nat.sub_zero, el, List.take_length]
theorem r_slt {lo hi : Option Expr} {p2 : Pos} {ml mh : S → Hs → Option (Option Int × Hs)} (ha : PE X a (LE X.K cl ma)) (hl : PO X lo (LO X.K cl ml)) (hh : PO X hi (LO X.K cl mh)) :
    PE X (.Subscript a (.Slice lo hi none p2) pos) (LE X.K cl fun se h => (ma se h).bind fun p => (ml se p.2).bind fun q => (mh se q.2).bind fun r => match p.1 with
      | .tup xs => some (.tup (cutD xs q.1 r.1), r.2)
      | _ => none) := by
  refine PE.imp (pe_slice sl_tupA ha hl hh) fun sg H Q ⟨al, se, h, d, h', st, e, f⟩ => ?_
  obtain ⟨⟨x, h1⟩, e1, e⟩ := Option.bind_eq_some_iff.mp e
  obtain ⟨⟨y, h2⟩, e2, e⟩ := Option.bind_eq_some_iff.mp e
  obtain ⟨⟨z, h3⟩, e3, e⟩ := Option.bind_eq_some_iff.mp e
  simp only at e
  split at e
  · rename_i xs
    cases e
    refine LE.use st e1 fun al1 H1 v s1 st1 r1 => LO.use st1 e2 fun al2 H2 s2 st2 => LO.use st2 e3 fun al3 H3 s3 st3 => ?_
    have f3 := f.stp ((s1.trans s2).trans s3)
    have r3 := r1.stp (s2.trans s3)
    obtain ⟨t, ws, rfl, hq, rs⟩ := r3.tupS
    refine ⟨t, ws, rfl, hq, fun z0 => ?_, fun _ p0 hp => f3.tup st3.rp (rs.cut _ _) p0 hp⟩
    rw [RVs.cutAll rs z0] at f3
    exact f3.now st3.rp r3
  · cases e
theorem r_sll {lo hi : Option Expr} {p2 : Pos} {ml mh : S → Hs → Option (Option Int × Hs)} (ha : PE X a (LE X.K cl ma)) (hl : PO X lo (LO X.K cl ml)) (hh : PO X hi (LO X.K cl mh)) :
    PE X (.Subscript a (.Slice lo hi none p2) pos) (LF X.K cl fun se h => (ma se h).bind fun p => (ml se p.2).bind fun q => (mh se q.2).bind fun r => match p.1 with
      | .lst xs => some (cutD xs q.1 r.1, r.2)
      | .ref n => match r.2[n]? with | some (.lst xs) => some (cutD xs q.1 r.1, r.2) | _ => none
      | _ => none) := by
  refine PE.imp (pe_slice sl_list ha hl hh) fun sg H Q ⟨al, se, h, d, h', st, e, f⟩ => ?_
  obtain ⟨⟨x, h1⟩, e1, e⟩ := Option.bind_eq_some_iff.mp e
  obtain ⟨⟨y, h2⟩, e2, e⟩ := Option.bind_eq_some_iff.mp e
  obtain ⟨⟨z, h3⟩, e3, e⟩ := Option.bind_eq_some_iff.mp e
  refine LE.use st e1 fun al1 H1 v s1 st1 r1 => LO.use st1 e2 fun al2 H2 s2 st2 => LO.use st2 e3 fun al3 H3 s3 st3 => ?_
  have s13 := (s1.trans s2).trans s3
  have r3 := r1.stp (s2.trans s3)
  simp only at e
  split at e
  · cases e
    obtain ⟨t, ws, rfl, hq, rs⟩ := r3.lstS
    exact ⟨t, ws, rfl, SqL.of hq, fun p0 hp => (f.stp s13 fun p => s13.none st.rp st3.rp).new st3.rp (rs.cut _ _) p0 hp⟩
  · split at e
    · rename_i xs e4
      cases e
      obtain ⟨t, rfl, _, ws, hq, rs⟩ := st3.rp.ref r3 e4
      exact ⟨t, ws, rfl, SqL.of hq, fun p0 hp => (f.stp s13 fun p => s13.none st.rp st3.rp).new st3.rp (rs.cut _ _) p0 hp⟩
    · cases e
  · cases e
theorem r_call (c : Ctx T cl X N sc n) {f : Nat} {d : Df} {es : List Expr} {e0 : Expr} {mr : S → Hs → Option (List D × Hs)} {ca : CA} (h1 : T.P[f]? = some d) (h1' : d.meth = false) (h2 : glB sc d.nm = true) (h3 : nameOk d.nm = true)
    (hk : kA T N sc ca (e0 :: es) = true) (hr : PA X (e0 :: es) (LA X.K cl mr)) :
    PE X (.Call (.Name d.nm p) (e0 :: es) [] pos) (LE X.K cl fun se h => (mr se h).bind fun p => call T n f p.1 p.2) := by
  obtain ⟨n1, n2, n3⟩ := nameOk_ok h3
  obtain ⟨ad, fd, e1, e2, e3, F⟩ := c.fns f d h1 h1'
  cases ca with
  | nil => simp [kA] at hk
  | cons ce ca =>
    simp only [kA, Bool.and_eq_true] at hk
    refine PE.imp (pe_call F c.room (c.gl h2) e1 e2 e3 .nil (pass0 (X := X)) hr n1 (star_ok hk.1.1) (stars_ok hk.2)) fun sg H Q ⟨al, se, h, d', h', st, e, f⟩ => ?_
    obtain ⟨⟨xs, h1⟩, e1, e⟩ := Option.bind_eq_some_iff.mp e
    refine LA.use st e1 fun al1 H1 vs s1 st1 r1 => ?_
    rw [List.append_nil]
    refine ⟨?_, al1, h1, xs, d', h', st1.rp, r1, e, f.stp s1⟩
    rw [r1.length]
    -- the count of the arguments
    cases n with
    | zero => simp [Cr.call] at e
    | succ n =>
      simp only [Cr.call, ‹T.P[_]? = some d›] at e
      split at e
      · assumption
      · cases e
theorem r_blt (c : Ctx T cl X N sc n) {bl : Bl} {x : Str} {es : List Expr} {e0 : Expr} {mr : S → Hs → Option (List D × Hs)} {ca : CA} (hx : (if bl = .gcd then T.gcd && decide (x = bl.nm) && glB sc x else bltC T sc x bl.nm) = true)
    (hk : kA T N sc ca (e0 :: es) = true) (hr : PA X (e0 :: es) (LA X.K cl mr)) :
    PE X (.Call (.Name x p) (e0 :: es) [] pos) (LE X.K cl fun se h => (mr se h).bind fun p => (bltD bl p.2 p.1).map fun d => (d, p.2)) := by
  cases ca with
  | nil => simp [kA] at hk
  | cons ce ca =>
    simp only [kA, Bool.and_eq_true] at hk
    have go : PE X (.Call (.Name x p) (e0 :: es) [] pos) (tCB (LCR X.K cl (bltD bl)) (LA X.K cl mr)) := by
      by_cases hb : bl = .gcd
      · subst hb
        rw [if_pos rfl] at hx
        simp only [Bool.and_eq_true, decide_eq_true_eq] at hx
        obtain ⟨⟨z1, z2⟩, z3⟩ := hx
        subst z2
        exact pe_callBfun (cb_blt (cl := cl) c.calm .gcd) (c.gl z3) (c.gcd z1) hr (by decide) (star_ok hk.1.1) (stars_ok hk.2)
      · rw [if_neg hb] at hx
        unfold bltC at hx
        simp only [Bool.and_eq_true, decide_eq_true_eq] at hx
        obtain ⟨⟨z1, z2⟩, z3⟩ := hx
        subst z1
        have zm := c.blt _ z2
        have zg := c.gl z3
        cases bl <;> first
          | exact absurd rfl hb
          | exact pe_callB (cb_blt (cl := cl) c.calm _) zg zm (by decide +kernel) hr (by decide) (by decide) (star_ok hk.1.1) (stars_ok hk.2)
          | exact pe_callTy (cb_blt (cl := cl) c.calm _) zg zm (by decide +kernel) hr (by decide) (by decide) (star_ok hk.1.1) (stars_ok hk.2)
    refine PE.imp go fun sg H Q ⟨al, se, h, d, h', st, e, f⟩ => ?_
    obtain ⟨⟨xs, h1⟩, e1, e⟩ := Option.bind_eq_some_iff.mp e
    obtain ⟨z, e2, e⟩ := Option.map_eq_some_iff.mp e
    cases e
    exact LA.use st e1 fun al1 H1 vs s1 st1 r1 => ⟨al1, _, xs, d, st1.rp, r1, e2, f.stp s1⟩
end
end Cr
/-! Core 4b: isinstance, methods, new lists, what is walked, targets, tests. -/
namespace Cr
open PySem PySem.Spec PyProof.Rows L2
section
variable {T : Tb} {cl : Nat → Option Addr} {X : Cx} {N : List Str} {sc : Scope} {n : Nat} {a b : Expr} {pos p : Pos} {ma mb : ME}
theorem bltC_ok (c : Ctx T cl X N sc n) {x y : Str} (h : bltC T sc x y = true) : x = y ∧ X.mg y = none ∧ Gl X y := by
  unfold bltC at h
  simp only [Bool.and_eq_true, decide_eq_true_eq] at h
  exact ⟨h.1.1, c.blt _ h.1.2, c.gl h.2⟩
theorem r_isi (c : Ctx T cl X N sc n) {t : Ty} {x z : Str} {pz : Pos} (hx : bltC T sc x "isinstance" = true) (hz : bltC T sc z t.nm = true) (h0 : notStar a = true) (ha : PE X a (LE X.K cl ma)) :
    PE X (.Call (.Name x p) [a, .Name z pz] [] pos) (LE X.K cl fun se h => (ma se h).bind fun p => (isiD t p.1).map fun k => (.bl k, p.2)) := by
  obtain ⟨e1, m1, g1⟩ := bltC_ok c hx
  obtain ⟨e2, m2, g2⟩ := bltC_ok c hz
  subst e1 e2
  have hty : PE X (.Name t.nm pz) (tC (.ty t.py)) := by
    cases t <;> exact pe_bltn g2 m2 (by decide +kernel) rfl (by decide) (by decide)
  have hpa := pa_cons ha (pa_cons hty pa_nil) (star_ok h0)
  have hpl : (backTo pos (starEach [Expr.Name t.nm pz] X.env)).any (·.1) = false := rfl
  refine PE.imp (pe_callB (cb_isi (cl := cl) t) g1 m1 (by decide +kernel) hpa (by decide) (by decide) (star_ok h0) hpl) fun sg H Q ⟨al, se, h, d, h', st, e, f⟩ => ?_
  obtain ⟨⟨y, h1⟩, e1, e⟩ := Option.bind_eq_some_iff.mp e
  obtain ⟨k, e2, e⟩ := Option.map_eq_some_iff.mp e
  cases e
  exact LE.use st e1 fun al1 H1 v s1 st1 r1 => ⟨al1, _, y, k, v, rfl, st1.rp, r1, e2, (f.stp s1).now st1.rp (.bl _)⟩
theorem base_ok {e : Expr} {m : Str} {env : Env} (h : baseOk e = true) : attributeBase e m env (eval e env) = eval e env := by
  cases e <;> first | rfl | cases h
theorem tyV_lst {K : PySem.W.Frag} {H : Hp} {al : Al} {h : Hs} {v : V} {d : D} {xs : List D} (rp : Rp K cl H al h) (r : RV K H al v d) (e : lstOf h d = some xs) : tyV K "list" v H := by
  obtain ⟨q, vs, rfl, hq, _⟩ := lst_of rp r e
  exact .inl ⟨rfl, vs, SqL.of hq⟩
theorem r_mth (c : Ctx T cl X N sc n) {m : Mt} {z : Str} {ap cp : Pos} {es : List Expr} {mr : S → Hs → Option (List D × Hs)} (hz : z = m.nm) (hl : (ap.endLine == cp.line) = true) (hb : baseOk a = true) (h0 : notStar b = true)
    (ha : PE X a (LE X.K cl ma)) (hr : PA X [b] (LA X.K cl mr)) :
    PE X (.Call (.Attribute a z ap) [b] [] cp) (LE X.K cl fun se h => (ma se h).bind fun p => (lstOf p.2 p.1).bind fun _ => (mr se p.2).bind fun q => mthD m q.2 p.1 q.1) := by
  subst hz
  have hs : starEach [b] X.env = [(false, eval b X.env)] := star_ok h0
  have hfew : ((backTo cp (starEach [b] X.env)).all (fun x => !x.1) && (backToKw cp (keywordEach [] X.env)).all (fun x => x.1.isSome)
      && decide ([b].length + ([] : List Keyword).length + (if ([] : List Keyword).isEmpty then 0 else 1) < 30)) = true := by rw [hs]; rfl
  have go : PE X (.Call (.Attribute a m.nm ap) [b] [] cp) (tBM X.K "list" (LMR X.K cl (mthD m)) (LE X.K cl ma) (LA X.K cl mr)) := by
    have mm := mb_mth (X := X) (cl := cl) c.hu m
    cases m with
    | append => exact pe_bm PySem.F.plainAttrs_list PySem.F.slot_list_append PySem.F.type_list_append mm ha hr (base_ok hb) hfew hl hs rfl
    | extend => exact pe_bm PySem.F.plainAttrs_list PySem.F.slot_list_extend PySem.F.type_list_extend mm ha hr (base_ok hb) hfew hl hs rfl
    | pop => exact pe_bm PySem.F.plainAttrs_list PySem.F.slot_list_pop PySem.F.type_list_pop mm ha hr (base_ok hb) hfew hl hs rfl
    | index => exact pe_bm PySem.F.plainAttrs_list PySem.F.slot_list_index PySem.F.type_list_index mm ha hr (base_ok hb) hfew hl hs rfl
  refine PE.imp go fun sg H Q ⟨al, se, h, d, h', st, e, f⟩ => ?_
  obtain ⟨⟨x, h1⟩, e1, e⟩ := Option.bind_eq_some_iff.mp e
  obtain ⟨xs, e2, e⟩ := Option.bind_eq_some_iff.mp e
  obtain ⟨⟨ys, h2⟩, e3, e⟩ := Option.bind_eq_some_iff.mp e
  exact LE.use st e1 fun al1 H1 v s1 st1 r1 => ⟨tyV_lst st1.rp r1 e2, LA.use st1 e3 fun al2 H2 vs s2 st2 r2 => ⟨al2, _, x, ys, d, h', st2.rp, r1.stp s2, r2, e, f.stp (s1.trans s2)⟩⟩
/-! ### new lists -/
theorem r_list (c : Ctx T cl X N sc n) {x : Str} (hx : bltC T sc x "list" = true) (h0 : notStar a = true) (ha : PE X a (LE X.K cl ma)) :
    PE X (.Call (.Name x p) [a] [] pos) (LF X.K cl fun se h => (ma se h).bind fun p => match p.1 with
      | .scr _ => none
      | d => (seqOf p.2 d).map fun xs => (xs, p.2)) := by
  obtain ⟨e1, m1, g1⟩ := bltC_ok c hx
  subst e1
  have hpa := pa_cons ha pa_nil (star_ok h0)
  refine PE.imp (pe_callTy call_list_of g1 m1 (by decide +kernel) hpa (by decide) (by decide) (star_ok h0) rfl) fun sg H Q ⟨al, se, h, d, h', st, e, f⟩ => ?_
  obtain ⟨⟨y, h1⟩, e1, e⟩ := Option.bind_eq_some_iff.mp e
  have e' : (seqOf h1 y).map (fun xs => (xs, h1)) = some (d, h') := by
    cases y <;> first | exact e | cases e
  obtain ⟨xs, e2, e3⟩ := Option.map_eq_some_iff.mp e'
  cases e3
  refine LE.use st e1 fun al1 H1 v s1 st1 r1 => ?_
  obtain ⟨q, ws, rfl, hq, r2⟩ := seq_of st1.rp r1 e2
  exact ⟨q, ws, rfl, hq, (f.stp s1 fun p => s1.none st.rp st1.rp).new st1.rp r2⟩
theorem r_lrg (c : Ctx T cl X N sc n) {x z : Str} {pz pos2 : Pos} (hx : bltC T sc x "list" = true) (hz : bltC T sc z "range" = true) (h0 : notStar a = true) (ha : PE X a (LE X.K cl ma)) :
    PE X (.Call (.Name x p) [.Call (.Name z pz) [a] [] pos2] [] pos) (LF X.K cl fun se h => (ma se h).bind fun p => match p.1 with
      | .int j => if -(2 ^ 62) ≤ j ∧ j ≤ 16777216 then some ((List.range j.toNat).map fun (k : Nat) => D.int (0 + (k : Int)), p.2) else none
      | _ => none) := by
  obtain ⟨e1, m1, g1⟩ := bltC_ok c hx
  obtain ⟨e2, m2, g2⟩ := bltC_ok c hz
  subst e1 e2
  refine PE.imp (pe_listRg c.calm g1 m1 (prg_1 g2 m2 ha (star_ok h0))) fun sg H Q ⟨al, se, h, d, h', st, e, f⟩ => ?_
  obtain ⟨⟨y, h1⟩, e1, e⟩ := Option.bind_eq_some_iff.mp e
  refine LE.use st e1 fun al1 H1 v s1 st1 r1 => ?_
  simp only at e
  split at e
  · rename_i j
    split at e
    · rename_i hj
      cases e
      cases r1
      refine ⟨j, rfl, ⟨by omega, by omega, by omega, by omega, by omega⟩, ?_⟩
      have rv : RVs X.K H1 al1 (rgV 0 j) ((List.range j.toNat).map fun (k : Nat) => D.int (0 + (k : Int))) := by
        unfold rgV
        rw [Int.sub_zero]
        generalize List.range j.toNat = l
        induction l with
        | nil => exact .nil
        | cons i l ih => exact .cons (.int _) ih
      exact (f.stp s1 fun p => s1.none st.rp st1.rp).new st1.rp rv
    · cases e
  · cases e
theorem sort_ints {ns ns' : List Int} (hp : ns'.Perm ns) (hs : ns'.Pairwise (· ≤ ·)) : ns' = ns.mergeSort (fun a b => decide (a ≤ b)) := by
  refine List.Perm.eq_of_pairwise (le := (· ≤ ·)) (fun x y _ _ h1 h2 => Int.le_antisymm h1 h2) hs ?_ (hp.trans (List.mergeSort_perm _ _).symm)
  have h := List.pairwise_mergeSort (le := fun (a b : Int) => decide (a ≤ b)) (fun a b c h1 h2 => by
    simp only [decide_eq_true_eq] at h1 h2 ⊢
    omega) (fun a b => by
    simp only [Bool.or_eq_true, decide_eq_true_eq]
    omega) ns
  exact h.imp fun h => of_decide_eq_true h
theorem r_srt (c : Ctx T cl X N sc n) {x : Str} (hx : bltC T sc x "sorted" = true) (h0 : notStar a = true) (ha : PE X a (LE X.K cl ma)) :
    PE X (.Call (.Name x p) [a] [] pos) (LF X.K cl fun se h => (ma se h).bind fun p => match p.1 with
      | .scr _ => none
      | .tup _ => none
      | d => (seqOf p.2 d).bind fun xs => (intsOf xs).map fun ns => ((ns.mergeSort (fun a b => decide (a ≤ b))).map D.int, p.2)) := by
  obtain ⟨e1, m1, g1⟩ := bltC_ok c hx
  subst e1
  have hpa := pa_cons ha pa_nil (star_ok h0)
  refine PE.imp (pe_callB cr_sortedI g1 m1 (by decide +kernel) hpa (by decide) (by decide) (star_ok h0) rfl) fun sg H Q ⟨al, se, h, d, h', st, e, f⟩ => ?_
  obtain ⟨⟨y, h1⟩, e1, e⟩ := Option.bind_eq_some_iff.mp e
  have e' : (lstOf h1 y).bind (fun xs => (intsOf xs).map fun ns => ((ns.mergeSort (fun a b => decide (a ≤ b))).map D.int, h1)) = some (d, h') := by
    cases y <;> first | exact e | cases e
  obtain ⟨xs, e2, e3⟩ := Option.bind_eq_some_iff.mp e'
  obtain ⟨ns, e4, e5⟩ := Option.map_eq_some_iff.mp e3
  cases e5
  refine LE.use st e1 fun al1 H1 v s1 st1 r1 => ?_
  obtain ⟨q, ws, rfl, hq, r2⟩ := lst_of st1.rp r1 e2
  rw [intsOf_eq e4] at r2
  have ew := r2.ints
  subst ew
  refine ⟨q, ns, rfl, SqL.of hq, fun ns' p0 hp hs hn => ?_⟩
  rw [sort_ints hp hs]
  exact (f.stp s1 fun p => s1.none st.rp st1.rp).new st1.rp (RVs.ofInts _) p0 hn
theorem picked_vals {vs : List V} {its : List Value} (r : Vals vs its) : ∀ js : List Nat, Vals (js.filterMap (vs[·]?)) (js.filterMap (its[·]?))
  | [] => .nil
  | j :: js => by
    have ih := picked_vals r js
    rw [List.filterMap_cons, List.filterMap_cons]
    cases e : vs[j]? with
    | none => rw [r.none_of e]; exact ih
    | some v =>
      obtain ⟨u, e1, e2⟩ := r.get e
      rw [e1]
      exact .cons e2 ih
theorem picked_rvs {K : PySem.W.Frag} {H : Hp} {al : Al} {vs : List V} {ds : List D} (r : RVs K H al vs ds) : ∀ js : List Nat, RVs K H al (js.filterMap (vs[·]?)) (js.filterMap (ds[·]?))
  | [] => .nil
  | j :: js => by
    have ih := picked_rvs r js
    rw [List.filterMap_cons, List.filterMap_cons]
    cases e : ds[j]? with
    | none =>
      have e' : vs[j]? = none := List.getElem?_eq_none_iff.mpr (by rw [r.length]; exact List.getElem?_eq_none_iff.mp e)
      rw [e']
      exact ih
    | some d =>
      obtain ⟨v, e1, e2⟩ := r.get e
      rw [e1]
      exact .cons e2 ih
theorem pick_len {α : Type} (xs : List α) (lo st : Int) (h : 0 < st) : (pickD xs lo st).length ≤ xs.length := by
  unfold pickD
  refine Nat.le_trans (List.length_filterMap_le _ _) ?_
  have h1 : ((some st).getD 1 : Int) = st := rfl
  refine sliceRange_length_le _ _ _ _ (fun _ => ?_) (fun z => ?_)
  · unfold sliceBounds
    simp only [Option.getD_some, gt_iff_lt, h, if_true]
    constructor <;> omega
  · unfold sliceBounds at z
    simp only [Option.getD_some] at z
    omega
/-- a[lo::st] of a list -/
theorem pe_slk {te : TE} {lo st : Int} {k1 k2 : Nat} {q1 q2 q3 : Pos} (h0 : 0 < st) (he : PE X a te) : PE X (.Subscript a (.Slice (some (.Constant (.int lo) k1 q1)) none (some (.Constant (.int st) k2 q2)) q3) pos)
    (fun sg H Q => te sg H fun x H1 => ∃ t xs, x = .ref t ∧ SqL X.K H1 t xs ∧ ∀ p, H1 p = none → Q (.ref p) (upd H1 p (.lst (pickD xs lo st)))) := by
  refine ⟨fun pins s σ H Q I h => ?_⟩
  refine Subscript_ (thn (he.run pins s σ H _ I h) fun v s1 ⟨x, H1, I1, r1, q1⟩ => ?_)
  obtain ⟨t, xs, ex, hx, q⟩ := q1
  subst ex
  cases r1
  have hlo : PO X (some (.Constant (.int lo) k1 ‹Pos›)) (tPart (tC (.int lo))) := po_some pe_int
  have hst : PO X (some (.Constant (.int st) k2 ‹Pos›)) (tPart (tC (.int st))) := po_some pe_int
  refine wpAny_Slice (thn ((po_some pe_int).run pins s1 σ H1 (fun o H2 => o = some lo ∧ H2 = H1) I1 ⟨lo, rfl, rfl, rfl⟩) fun vl s2 ⟨l, H2, I2, pl, el, e2⟩ => ?_)
  subst el e2
  refine thn (po_none.run pins s2 σ H2 (fun o H3 => o = none ∧ H3 = H2) I2 ⟨rfl, rfl⟩) fun vu s3 ⟨u, H3, I3, pu, eu, e3⟩ => ?_
  subst eu e3
  refine thn ((po_some pe_int).run pins s3 σ H3 (fun o H4 => o = some st ∧ H4 = H3) I3 ⟨st, rfl, rfl, rfl⟩) fun vs s4 ⟨o, H4, I4, ps, eo, e4⟩ => ?_
  subst eo e4
  have I5 : Inv X pins σ H4 { s4 with heap := s4.heap.push { cls := .type "slice", data := .fields #[vl, vu, vs] } } := I4.kept (t' := s4.toks) fun b ob q => Heap.get?_push_of_some _ q
  obtain ⟨its, r, ht, hz⟩ := I5.list hx
  have hlen := r.length
  refine tail_any (ops := [.ref t, .ref s4.heap.objs.size]) ht.isList.typeIs (PySem.slot_list_getitem.lookup) ?_ (by with_unfolding_all rfl)
  refine wpAny_getItem_list_slice ht.isList (Heap.IsSliceOf.new _ vl vu vs) pl pu ps (by simp; omega) ?_ (by rw [List.size_toArray]; omega)
  have ep : slicePick its.toArray (some lo) none (some st) = (pickD its lo st).toArray := by
    unfold slicePick pickD
    simp
  rw [ep]
  have hv : Vals (pickD xs lo st) (pickD its lo st) := by
    unfold pickD
    rw [← hlen]
    exact picked_vals r _
  refine ⟨.ref _, _, I5.laid (t' := s4.toks) (o := .lst (pickD xs lo st)) (fun b ob q => Heap.get?_push_of_some _ q) (Nat.le_refl _) ?_, rfl, q _ (I5.hok.fresh (Nat.le_refl _))⟩
  exact ⟨Nat.le_trans (pick_len xs lo st h0) hz, _, 0, hv, Heap.get?_push_size _ rfl⟩
theorem RVs.pick {K : PySem.W.Frag} {H : Hp} {al : Al} {vs : List V} {ds : List D} (r : RVs K H al vs ds) (lo st : Int) : RVs K H al (pickD vs lo st) (pickD ds lo st) := by
  unfold pickD
  rw [r.length]
  exact picked_rvs r _
theorem r_slk {lo st : Int} {k1 k2 : Nat} {q1 q2 q3 : Pos} (h0 : 0 < st) (ha : PE X a (LE X.K cl ma)) : PE X (.Subscript a (.Slice (some (.Constant (.int lo) k1 q1)) none (some (.Constant (.int st) k2 q2)) q3) pos)
    (LF X.K cl fun se h => (ma se h).bind fun p => match p.1 with
      | .lst xs => some (pickD xs lo st, p.2)
      | .ref n => match p.2[n]? with | some (.lst xs) => some (pickD xs lo st, p.2) | _ => none
      | _ => none) := by
  refine PE.imp (pe_slk h0 ha) fun sg H Q ⟨al, se, h, d, h', st, e, f⟩ => ?_
  obtain ⟨⟨x, h1⟩, e1, e⟩ := Option.bind_eq_some_iff.mp e
  refine LE.use st e1 fun al1 H1 v s1 st1 r1 => ?_
  simp only at e
  split at e
  · cases e
    obtain ⟨t, ws, rfl, hq, rs⟩ := r1.lstS
    exact ⟨t, ws, rfl, SqL.of hq, (f.stp s1 fun p => s1.none st.rp st1.rp).new st1.rp (rs.pick _ _)⟩
  · split at e
    · rename_i xs e4
      cases e
      obtain ⟨t, rfl, _, ws, hq, rs⟩ := st1.rp.ref r1 e4
      exact ⟨t, ws, rfl, SqL.of hq, (f.stp s1 fun p => s1.none st.rp st1.rp).new st1.rp (rs.pick _ _)⟩
    · cases e
  · cases e
theorem res_lst {K : PySem.W.Frag} {H : Hp} {al : Al} {h : Hs} {v : V} {d : D} {xs : List D} (rp : Rp K cl H al h) (r : RV K H al v d) (e : res h d = .lst xs) : ∃ p vs, v = .ref p ∧ H p = some (.lst vs) ∧ RVs K H al vs xs := by
  refine lst_of rp r ?_
  cases d with
  | ref n =>
    unfold res at e
    simp only at e
    unfold lstOf
    simp only
    split at e
    · rename_i ys e1
      cases e
      first | rfl | rw [e1]
    · cases e
  | lst ys => cases e; rfl
  | _ => cases e
theorem r_cat (ha : PE X a (LE X.K cl ma)) (hb : PE X b (LE X.K cl mb)) :
    PE X (.BinOp a .Add b pos) (LF X.K cl fun se h => (ma se h).bind fun p => (mb se p.2).bind fun q => match res q.2 p.1, res q.2 q.1 with
      | .lst xs, .lst ys => if xs.length + ys.length ≤ sizeLine then some (xs ++ ys, q.2) else none
      | _, _ => none) := by
  refine PE.imp (pe_op op_cat ha hb) fun sg H Q ⟨al, se, h, d, h', st, e, f⟩ => ?_
  obtain ⟨⟨x, h1⟩, e1, e⟩ := Option.bind_eq_some_iff.mp e
  obtain ⟨⟨y, h2⟩, e2, e⟩ := Option.bind_eq_some_iff.mp e
  simp only at e
  split at e
  · rename_i xs ys ex ey
    split at e
    · rename_i hl
      cases e
      refine LE.use st e1 fun al1 H1 v s1 st1 r1 => LE.use st1 e2 fun al2 H2 u s2 st2 r2 => ?_
      obtain ⟨t, ws, rfl, q1, rs1⟩ := res_lst st2.rp (r1.stp s2) ex
      obtain ⟨t2, ws2, rfl, q2, rs2⟩ := res_lst st2.rp r2 ey
      have s12 := s1.trans s2
      exact ⟨t, t2, ws, ws2, rfl, rfl, q1, q2, by rw [rs1.length, rs2.length]; exact hl, (f.stp s12 fun p => s12.none st.rp st2.rp).new st2.rp (rs1.app rs2)⟩
    · cases e
  · cases e

/-! ### what is walked -/
theorem Same.sqT {K : PySem.W.Frag} {H H' : Hp} {a : Addr} {vs : List V} (s : ∀ b o, H b = some o → H' b = some o) (h : SqT K H a vs) : SqT K H' a vs := by
  rcases h with (h | ⟨o, h⟩) | h
  · exact .inl (.inl (s _ _ h))
  · exact .inl (.inr ⟨o, s _ _ h⟩)
  · exact .inr h
theorem KT.inj {K : PySem.W.Frag} {a : Addr} {xs ys : List V} (h : KT K a xs) (h' : KT K a ys) : xs = ys := by
  obtain ⟨o, its, n, e1, _, e2, _, r⟩ := h
  obtain ⟨o', its', n', e1', _, e2', _, r'⟩ := h'
  rw [e1] at e1'
  cases e1'
  rw [e2] at e2'
  injection e2' with z _
  rw [z] at r
  exact r.inj r'
theorem lstWk {K : PySem.W.Frag} {al : Al} {H : Hp} {t : Addr} {vs : List V} {xs : List D} {st : Hs → Prop} (hq : ∀ al1 H1 h1, Stp al H al1 H1 → Rp K cl H1 al1 h1 → st h1 → ∃ ws, H1 t = some (.lst ws) ∧ RVs K H1 al1 ws xs) : Wk K cl (Itl K t) al H ⟨xs, st⟩ := by
  intro i al1 H1 h1 s1 rp1 hs
  obtain ⟨ws, e0, rs⟩ := hq al1 H1 h1 s1 rp1 hs
  refine ⟨fun d e => ?_, fun hi => ⟨ws, SqL.of e0, by rw [rs.length]; exact hi⟩⟩
  obtain ⟨v, e1, r1⟩ := rs.get e
  refine ⟨⟨ws, v, SqL.of e0, e1⟩, fun x H' ⟨eH, f⟩ => ?_⟩
  subst eH
  have ev : ws[i]? = some x := f ws (SqL.of e0)
  rw [e1] at ev
  cases ev
  exact ⟨fun _ _ h => h, r1⟩
/-- over a list or a tuple, whichever it is -/
theorem pi_seqs {tg l : Expr} {tl : TE} (hl : PE X l tl) : PI X tg l (fun sg H R => tl sg H fun x H1 => (∃ a, x = .ref a ∧ (∃ xs, SqL X.K H1 a xs) ∧ R (Itl X.K a) H1) ∨ (∃ a, x = .ref a ∧ (∃ xs, SqT X.K H1 a xs) ∧ R (Itt X.K a) H1)) := by
  refine ⟨fun pins s σ H R I h => ?_⟩
  refine thn (hl.run pins s σ H _ I h) fun v s1 ⟨x, H1, I1, r1, q1⟩ => ?_
  rcases q1 with ⟨a, e, ⟨xs, hq⟩, q⟩ | ⟨a, e, ⟨xs, hq⟩, q⟩
  · subst e
    cases r1
    obtain ⟨its, rv, p, hz⟩ := I1.list hq
    refine wpAny_pyIter_list p.isList ?_
    refine ⟨s1.heap.objs.size, [s1.heap.objs.size], _, _, H1, rfl, I1.kept (t' := s1.toks) fun b o e => Heap.get?_push_of_some _ e, turn_list a _, ⟨_, Heap.get?_push_size _ rfl, rfl, rfl⟩, fun b hb => ?_, q⟩
    have e : b = s1.heap.objs.size := by simpa using hb
    subst e
    exact I1.fpOk (Nat.le_refl _) (I1.hok.fresh (Nat.le_refl _))
  · subst e
    cases r1
    obtain ⟨its, rv, p, hz⟩ := I1.tuple hq
    refine wpAny_pyIter_tuple (show s1.heap.IsTuple a its.toArray from p) ?_
    refine ⟨s1.heap.objs.size, [s1.heap.objs.size], _, _, H1, rfl, I1.kept (t' := s1.toks) fun b o e => Heap.get?_push_of_some _ e, turn_tuple a _, ⟨_, Heap.get?_push_size _ rfl, rfl, rfl⟩, fun b hb => ?_, q⟩
    have e : b = s1.heap.objs.size := by simpa using hb
    subst e
    exact I1.fpOk (Nat.le_refl _) (I1.hok.fresh (Nat.le_refl _))
theorem r_seq {tg : Expr} (ha : PE X a (LE X.K cl ma)) : PI X tg a (LI X.K cl fun se h => (ma se h).bind fun p => match p.1 with
      | .tup xs => some (⟨xs, fun _ => True⟩, p.2)
      | .lst xs => some (⟨xs, fun _ => True⟩, p.2)
      | .ref n => match p.2[n]? with
        | some (.lst xs) => some (⟨xs, fun h => h[n]? = some (.lst xs)⟩, p.2)
        | _ => none
      | _ => none) := by
  refine PI.imp (pi_seqs ha) fun sg H R ⟨al, se, h, it, h', st, e, f⟩ => ?_
  obtain ⟨⟨x, h1⟩, e1, e⟩ := Option.bind_eq_some_iff.mp e
  refine LE.use st e1 fun al1 H1 v s1 st1 r1 => ?_
  simp only at e
  split at e
  · cases e
    cases r1 with
    | @tup t vs _ hq rs => exact .inr ⟨t, rfl, ⟨vs, hq.elim (fun z => .inl (.inl z.1)) False.elim⟩, f al1 H1 _ s1 st1.rp (by
        intro i al2 H2 h2 s2 rp2 _
        have hq1 : SqT X.K H2 t vs := hq.elim (fun z => .inl (.inl (s2.kp _ _ z.1 z.2.1))) False.elim
        refine ⟨fun d e => ?_, fun hi => ⟨vs, hq1, by rw [rs.length]; exact hi⟩⟩
        obtain ⟨v, e1, r1⟩ := rs.get e
        refine ⟨⟨vs, v, hq1, e1⟩, fun x H' ⟨eH, f⟩ => ?_⟩
        subst eH
        have ev : vs[i]? = some x := f vs hq1
        rw [e1] at ev
        cases ev
        exact ⟨fun _ _ h => h, r1.stp s2⟩)⟩
  · cases e
    cases r1 with
    | @lst t vs _ hq hn rs => exact .inl ⟨t, rfl, ⟨vs, SqL.of hq⟩, f al1 H1 _ s1 st1.rp (lstWk (vs := vs) fun al2 H2 h2 s2 rp2 _ => ⟨vs, s2.kp _ _ hq hn.1, rs.stp s2⟩)⟩
  · split at e
    · rename_i nn _ xs e4
      cases e
      obtain ⟨t, rfl, ht, ws, hq, rs⟩ := st1.rp.ref r1 e4
      refine .inl ⟨t, rfl, ⟨ws, SqL.of hq⟩, f al1 H1 _ s1 st1.rp (lstWk (vs := ws) fun al2 H2 h2 s2 rp2 hs => ?_)⟩
      obtain ⟨vs2, e5, r5⟩ := rp2.obj nn t _ (s2.get ht) hs
      exact ⟨vs2, e5, r5⟩
    · cases e
  · cases e
theorem rngWk {K : PySem.W.Frag} {al : Al} {H : Hp} {lo : Int} {m : Nat} : Wk K cl (Itr lo m) al H ⟨(List.range m).map fun (k : Nat) => D.int (lo + (k : Int)), fun _ => True⟩ := by
  intro i al1 H1 h1 s1 rp1 _
  refine ⟨fun d e => ?_, fun hi => ?_⟩
  · have e' : ((List.range m).map fun (k : Nat) => D.int (lo + (k : Int)))[i]? = some d := e
    rw [List.getElem?_map] at e'
    obtain ⟨k, e1, e2⟩ := Option.map_eq_some_iff.mp e'
    have hk := List.getElem?_range (n := m) (i := i)
    obtain ⟨hi, e3⟩ := List.getElem?_eq_some_iff.mp e1
    rw [List.length_range] at hi
    rw [List.getElem_range] at e3
    subst e3 e2
    refine ⟨hi, fun x H' ⟨eH, ex⟩ => ?_⟩
    subst eH ex
    exact ⟨fun _ _ h => h, .int _⟩
  · have hi' : ((List.range m).map fun (k : Nat) => D.int (lo + (k : Int))).length ≤ i := hi
    rw [List.length_map, List.length_range] at hi'
    exact hi'
theorem r_rng1 (c : Ctx T cl X N sc n) {tg : Expr} {x : Str} (hx : bltC T sc x "range" = true) (h0 : notStar a = true) (ha : PE X a (LE X.K cl ma)) : PI X tg (.Call (.Name x p) [a] [] pos) (LI X.K cl fun se h => (ma se h).bind fun p => match p.1 with
      | .int j => if -(2 ^ 62) ≤ j ∧ j < 2 ^ 62 then some (⟨(List.range j.toNat).map fun (k : Nat) => D.int (0 + (k : Int)), fun _ => True⟩, p.2) else none
      | _ => none) := by
  obtain ⟨e1, m1, g1⟩ := bltC_ok c hx
  subst e1
  refine PI.imp (pi_range1 g1 m1 (pa_cons ha pa_nil (star_ok h0)) (star_ok h0)) fun sg H R ⟨al, se, h, it, h', st, e, f⟩ => ?_
  obtain ⟨⟨x, h1⟩, e1, e⟩ := Option.bind_eq_some_iff.mp e
  refine LE.use st e1 fun al1 H1 v s1 st1 r1 => ?_
  simp only at e
  split at e
  · split at e
    · rename_i j hj
      cases e
      cases r1
      exact ⟨j, rfl, hj.1, hj.2, f al1 H1 _ s1 st1.rp rngWk⟩
    · cases e
  · cases e
theorem r_rng2 (c : Ctx T cl X N sc n) {tg : Expr} {x : Str} (hx : bltC T sc x "range" = true) (h0 : notStar a = true) (h00 : notStar b = true) (ha : PE X a (LE X.K cl ma)) (hb : PE X b (LE X.K cl mb)) :
    PI X tg (.Call (.Name x p) [a, b] [] pos) (LI X.K cl fun se h => (ma se h).bind fun p => (mb se p.2).bind fun q => match p.1, q.1 with
      | .int i, .int j => if -(2 ^ 62) ≤ i ∧ i < 2 ^ 62 ∧ -(2 ^ 62) ≤ j ∧ j < 2 ^ 62 then some (⟨(List.range (j - i).toNat).map fun (k : Nat) => D.int (i + (k : Int)), fun _ => True⟩, q.2) else none
      | _, _ => none) := by
  obtain ⟨e1, m1, g1⟩ := bltC_ok c hx
  subst e1
  refine PI.imp (pi_range2 g1 m1 (pa_cons ha (pa_cons hb pa_nil (star_ok h00)) (star_ok h0)) (by rw [star_ok h0, star_ok h00]; rfl) (star_ok h00)) fun sg H R ⟨al, se, h, it, h', st, e, f⟩ => ?_
  obtain ⟨⟨x, h1⟩, e1, e⟩ := Option.bind_eq_some_iff.mp e
  obtain ⟨⟨y, h2⟩, e2, e⟩ := Option.bind_eq_some_iff.mp e
  refine LE.use st e1 fun al1 H1 v s1 st1 r1 => LE.use st1 e2 fun al2 H2 u s2 st2 r2 => ?_
  simp only at e
  split at e
  · split at e
    · rename_i hj
      cases e
      cases r1
      cases r2
      exact ⟨_, _, rfl, hj, f al2 H2 _ (s1.trans s2) st2.rp rngWk⟩
    · cases e
  · cases e
theorem enumWk {K : PySem.W.Frag} {al : Al} {H : Hp} {t : Addr} {xs : List D} {st : Hs → Prop} (hq : ∀ al1 H1 h1, Stp al H al1 H1 → Rp K cl H1 al1 h1 → st h1 → ∃ ws, H1 t = some (.lst ws) ∧ RVs K H1 al1 ws xs) :
    Wk K cl (Ite K t) al H ⟨xs.mapIdx fun k x => D.tup [.int (k : Nat), x], st⟩ := by
  intro i al1 H1 h1 s1 rp1 hs
  obtain ⟨ws, e0, rs⟩ := hq al1 H1 h1 s1 rp1 hs
  refine ⟨fun d e => ?_, fun hi => ⟨ws, SqL.of e0, by
    have hi' : (xs.mapIdx fun k x => D.tup [.int (k : Nat), x]).length ≤ i := hi
    rw [List.length_mapIdx] at hi'
    rw [rs.length]; exact hi'⟩⟩
  have e' : (xs.mapIdx fun k x => D.tup [.int (k : Nat), x])[i]? = some d := e
  rw [List.getElem?_mapIdx] at e'
  obtain ⟨x0, e2, e3⟩ := Option.map_eq_some_iff.mp e'
  subst e3
  obtain ⟨v, e1, r1⟩ := rs.get e2
  refine ⟨⟨ws, v, SqL.of e0, e1⟩, fun x H' ⟨T0, y, ex, hn, eH, f⟩ => ?_⟩
  subst ex eH
  have ev : ws[i]? = some y := f ws (SqL.of e0)
  rw [e1] at ev
  cases ev
  exact ⟨same_upd hn, RV.newTup (.cons (.int _) (.cons r1 .nil)) rp1 hn⟩
theorem r_enum (c : Ctx T cl X N sc n) {tg : Expr} {x : Str} (ht : isTup tg = true) (hx : bltC T sc x "enumerate" = true) (h0 : notStar a = true) (ha : PE X a (LE X.K cl ma)) :
    PI X tg (.Call (.Name x p) [a] [] pos) (LI X.K cl fun se h => (ma se h).bind fun p => match p.1 with
      | .lst xs => some (⟨xs.mapIdx fun k x => D.tup [.int (k : Nat), x], fun _ => True⟩, p.2)
      | .ref n => match p.2[n]? with
        | some (.lst xs) => some (⟨xs.mapIdx fun k x => D.tup [.int (k : Nat), x], fun h => h[n]? = some (.lst xs)⟩, p.2)
        | _ => none
      | _ => none) := by
  obtain ⟨e1, m1, g1⟩ := bltC_ok c hx
  subst e1
  cases tg with
  | Tuple elts kk tpos =>
    refine PI.imp (pi_enum g1 m1 (pa_cons ha pa_nil (star_ok h0)) (star_ok h0)) fun sg H R ⟨al, se, h, it, h', st, e, f⟩ => ?_
    obtain ⟨⟨x, h1⟩, e1, e⟩ := Option.bind_eq_some_iff.mp e
    refine LE.use st e1 fun al1 H1 v s1 st1 r1 => ?_
    simp only at e
    split at e
    · cases e
      cases r1 with
      | @lst t vs _ hq hn rs => exact ⟨t, vs, rfl, SqL.of hq, f al1 H1 _ s1 st1.rp (enumWk fun al2 H2 h2 s2 rp2 _ => ⟨vs, s2.kp _ _ hq hn.1, rs.stp s2⟩)⟩
    · split at e
      · rename_i nn _ xs e4
        cases e
        obtain ⟨t, rfl, ht, ws, hq, rs⟩ := st1.rp.ref r1 e4
        refine ⟨t, ws, rfl, SqL.of hq, f al1 H1 _ s1 st1.rp (enumWk fun al2 H2 h2 s2 rp2 hs => ?_)⟩
        obtain ⟨vs2, e5, r5⟩ := rp2.obj nn t _ (s2.get ht) hs
        exact ⟨vs2, e5, r5⟩
      · cases e
    · cases e
  | _ => cases ht

/-! ### targets -/
/-- the names that a target may set -/
def SetOk (X : Cx) (st : Str → Bool) : Prop := ∀ x, st x = true → L2.Loc X.env.scope x ∧ (X.fn x = true ∨ X.env.scope.names.lookup x = some .local)
/-- what a block forgets -/
theorem wipe_get {sg : L2.St} : ∀ {vs : List Nat} {j : Nat}, (L2.wipe sg vs)[j]? = if j ∈ vs ∧ j < sg.length then some none else sg[j]?
  | [], j => by simp [L2.wipe]
  | v :: vs, j => by
    unfold L2.wipe
    by_cases hv : v = j
    · subst hv
      by_cases hl : v < sg.length
      · rw [List.getElem?_set_self (by rw [wipe_length]; exact hl), if_pos ⟨List.mem_cons_self, hl⟩]
      · rw [List.getElem?_eq_none (by rw [List.length_set, wipe_length]; omega), if_neg (fun z => hl z.2), List.getElem?_eq_none (by omega)]
    · rw [List.getElem?_set_ne hv, wipe_get]
      have : (j ∈ vs ∧ j < sg.length) ↔ (j ∈ v :: vs ∧ j < sg.length) := by
        constructor
        · exact fun z => ⟨List.mem_cons_of_mem _ z.1, z.2⟩
        · exact fun z => ⟨(List.mem_cons.mp z.1).resolve_left (fun e => hv e.symm), z.2⟩
      simp only [this]
theorem wipe_set {sg : L2.St} {vs : List Nat} {i : Nat} {x : Option V} (h : i ∈ vs) : L2.wipe (sg.set i x) vs = L2.wipe sg vs := by
  apply List.ext_getElem?
  intro j
  rw [wipe_get, wipe_get, List.length_set]
  by_cases hj : j ∈ vs ∧ j < sg.length
  · rw [if_pos hj, if_pos hj]
  · rw [if_neg hj, if_neg hj]
    by_cases hl : j < sg.length
    · rw [List.getElem?_set_ne]
      intro e
      subst e
      exact hj ⟨h, hl⟩
    · rw [List.getElem?_eq_none (by rw [List.length_set]; omega), List.getElem?_eq_none (by omega)]
theorem wipe_idem {sg : L2.St} {vs : List Nat} : L2.wipe (L2.wipe sg vs) vs = L2.wipe sg vs := by
  apply List.ext_getElem?
  intro j
  rw [wipe_get, wipe_length, wipe_get]
  split <;> rfl
def LG (K : PySem.W.Frag) (cl : Nat → Option Addr) (tg : Tg) : TG := fun v sg H Q => ∃ al se h d se', Stt K cl sg H al se h ∧ RV K H al v d ∧ putT tg d se = some se' ∧ ∀ sg', Stt K cl sg' H al se' h → (∀ own, tgIn own tg = true → L2.wipe sg' own = L2.wipe sg own) → Q sg' H
theorem r_names {st : Str → Bool} (hN : X.N = N) (nd : N.Nodup) (so : SetOk X st) : ∀ {es : List Expr} {is : List Nat}, kGs st N is es = true →
    PGs X es (fun vs sg H Q => ∃ al se h ds, Stt X.K cl sg H al se h ∧ RVs X.K H al vs ds ∧ ds.length = is.length ∧ ∀ sg', Stt X.K cl sg' H al (putS is ds se) h → (∀ own, tgIn own (.tp is) = true → L2.wipe sg' own = L2.wipe sg own) → Q sg' H) ∧ (∀ env, (assignEach es env).length = is.length ∧ (assignEach es env).findIdx? (·.1) = none)
  | [], [], _ => ⟨⟨fun pins s sg H vs us Q I r h => pgs_nil.run pins s sg H vs us Q I r (by
      obtain ⟨al, se, hh, ds, st, rv, hl, f⟩ := h
      have e : ds = [] := List.eq_nil_of_length_eq_zero hl
      subst e
      cases rv
      exact ⟨rfl, f sg st fun _ _ => rfl⟩)⟩, fun env => ⟨rfl, rfl⟩⟩
  | .Name x px :: es, i :: is, h => by
    simp only [kGs, Bool.and_eq_true, decide_eq_true_eq] at h
    obtain ⟨ih, ih2⟩ := r_names hN nd so h.2
    obtain ⟨s1, s2⟩ := so x h.1.2
    refine ⟨⟨fun pins s sg H vs us Q I r hh => (pgs_cons (pg_name (i := i) (by rw [hN]; exact nd) (by rw [hN]; exact h.1.1) s1 s2) ih).run pins s sg H vs us Q I r ?_⟩, fun env => ?_⟩
    · obtain ⟨al, se, h, ds, st, rv, hl, f⟩ := hh
      cases rv with
      | nil => cases hl
      | @cons v0 vs0 d0 ds0 r0 rv =>
        refine ⟨v0, vs0, rfl, al, se.set i (some d0), h, ds0, ⟨st.rs.put r0 i, st.rp⟩, rv, by simpa using hl, fun sg' st' hw => f sg' st' fun own ho => ?_⟩
        have ho' : (decide (i ∈ own) && is.all fun i => decide (i ∈ own)) = true := ho
        rw [Bool.and_eq_true, decide_eq_true_eq] at ho'
        rw [hw own ho'.2, wipe_set ho'.1]
    · obtain ⟨l1, l2⟩ := ih2 env
      refine ⟨congrArg (· + 1) l1, ?_⟩
      show (((false, _) : Bool × _) :: assignEach es env).findIdx? (·.1) = none
      rw [List.findIdx?_cons]
      simp [l2]
  | [], _ :: _, h => by simp [kGs] at h
  | _ :: _, [], h => by simp [kGs] at h
theorem r_tg {st : Str → Bool} (hN : X.N = N) (nd : N.Nodup) (hc : X.calm = true) (so : SetOk X st) {tg : Tg} {e : Expr} (h : kG st N tg e = true) : PG X e (LG X.K cl tg) := by
  cases tg with
  | nm i =>
    cases e with
    | Name x px =>
      simp only [kG, Bool.and_eq_true, decide_eq_true_eq] at h
      obtain ⟨s1, s2⟩ := so x h.2
      refine PG.imp (pg_name (i := i) (by rw [hN]; exact nd) (by rw [hN]; exact h.1) s1 s2) fun v sg H Q ⟨al, se, h, d, se', st, r, e, f⟩ => ?_
      have e' : some (se.set i (some d)) = some se' := e
      cases e'
      exact f _ ⟨st.rs.put r i, st.rp⟩ fun own ho => wipe_set (of_decide_eq_true ho)
    | _ => simp [kG] at h
  | tp is =>
    cases e with
    | Tuple es k px =>
      simp only [kG] at h
      obtain ⟨h1, h2⟩ := r_names (cl := cl) hN nd so h
      obtain ⟨l1, l2⟩ := h2 X.env
      refine PG.imp (pg_tup hc h1 l1 l2) fun v sg H Q ⟨al, se, h, d, se', st, r, e, f⟩ => ?_
      cases d with
      | tup ds =>
        have e' : (if ds.length = is.length then some (putS is ds se) else none) = some se' := e
        split at e'
        · rename_i hl
          cases e'
          obtain ⟨t, ws, rfl, hq, rs⟩ := r.tupS
          exact ⟨t, ws, rfl, hq, by rw [rs.length]; exact hl, al, se, h, ds, st, rs, hl, f⟩
        · cases e'
      | _ => cases e
    | _ => simp [kG] at h
end
end Cr
/-! Core 4c: comprehensions, tests, statements. -/
namespace Cr
open PySem PySem.Spec PyProof.Rows L2

/-! ### an expression, and a comprehension's name that is bound within -/
structure PV (X : Cx) (e : Expr) (t : TE) : Prop where
  pe : PE X e t
  ps : isLC e = true → ∀ (i : Nat) (y : Str) (py spos : Pos), X.N[i]? = some y → X.env.scope.names.lookup y = some .local → swapsWith e (some (.Name y py)) spos.line X.env = pure true → PS X (.Assign [.Name y py] e spos) (tAsg t (gName i))
theorem PV.of {X : Cx} {e : Expr} {t : TE} (h : PE X e t) (n : isLC e = false) : PV X e t := ⟨h, fun z => by rw [n] at z; cases z⟩
theorem PV.imp {X : Cx} {e : Expr} {t t' : TE} (p : PV X e t) (i : ∀ sg H Q, t' sg H Q → t sg H Q) : PV X e t' :=
  ⟨PE.imp p.pe i, fun z k y py spos h1 h2 h3 => PS.imp (p.ps z k y py spos h1 h2 h3) fun E sg H q => i _ _ _ q⟩
section
variable {T : Tb} {cl : Nat → Option Addr} {X : Cx} {N : List Str} {sc : Scope} {n : Nat} {a b : Expr} {pos p : Pos} {ma mb : ME} {mt mt2 : S → Hs → Option (Bool × Hs)}
/-- a comprehension's turns -/
theorem lc_imp {K : PySem.W.Frag} {mi : S → Hs → Option (IT × Hs)} {tg : Tg} {vs : List Nat} {mc : S → Hs → Option (Bool × Hs)} {me : ME} (ht : tgIn vs tg = true) {sg : L2.St} {H : Hp} {Q : VK}
    (i : LF K cl (fun se h => (mi se h).bind fun p => if p.1.xs.length ≤ sizeLine then lcD p.1.st tg (wipeD se vs) mc me p.1.xs p.2 else none) sg H Q) :
    tLc (LI K cl mi) (LG K cl tg) (LT K cl mc) (LE K cl me) vs sg H Q := by
  obtain ⟨al, se, h, ds, h', st, e, f⟩ := i
  obtain ⟨⟨it, h1⟩, e1, e⟩ := Option.bind_eq_some_iff.mp e
  simp only at e
  split at e
  rotate_left
  · cases e
  rename_i hlen
  refine ⟨al, se, h, it, h1, st, e1, fun al0 H0 J s0 rp0 wk Dn hD => ?_⟩
  have hD0 : H Dn = none := s0.none st.rp rp0 hD
  refine ⟨fun i m H1 => ∃ al1 h1' acc avs rest, Stp al H al1 H1 ∧ Stp al0 H0 al1 H1 ∧ Rp K cl H1 al1 h1' ∧ Dn ∈ al1.x ∧ H1 Dn = some (.lst avs) ∧ RVs K H1 al1 avs acc ∧ RS K H1 al1 (L2.wipe sg vs) (wipeD se vs) ∧
    lcD it.st tg (wipeD se vs) mc me (it.xs.drop i) h1' = some (rest, h') ∧ acc ++ rest = ds ∧ acc.length ≤ i ∧ i ≤ it.xs.length ∧ m = it.xs.length - i, ?_, ?_⟩
  · refine ⟨it.xs.length - 0, al0.hide Dn, h1, [], [], ds, s0.trans (Stp.hide hD), Stp.hide hD, rp0.hid hD, List.mem_cons_self, upd_same, .nil, ((st.rs.stp s0).stp (Stp.hide hD)).wipe vs, e, rfl, Nat.le_refl _, Nat.zero_le _, rfl⟩
  rintro i m H1 ⟨al1, h1', acc, avs, rest, s1, s01, rp1, px, hl, ra, rs, el, ed, la, li, em⟩
  have wk1 := wk i al1 H1 h1' s01 rp1
  by_cases hi : i < it.xs.length
  · rw [List.drop_eq_getElem_cons hi] at el
    unfold lcD at el
    split at el
    rotate_left
    · cases el
    rename_i hst
    obtain ⟨s2, t1, el⟩ := Option.bind_eq_some_iff.mp el
    obtain ⟨⟨k, h2⟩, t2, el⟩ := Option.bind_eq_some_iff.mp el
    obtain ⟨w1, w2⟩ := wk1 hst
    obtain ⟨w3, w4⟩ := w1 _ (List.getElem?_eq_getElem hi)
    refine .inr ⟨w3, _, fun H' hh => ⟨it.xs.length - (i + 1), by omega, hh⟩, fun x H' y => ?_⟩
    obtain ⟨g, rx⟩ := w4 x H' y
    have sg' : Stp al1 H1 al1 H' := Stp.grow g
    refine ⟨al1, wipeD se vs, h1', _, s2, ⟨rs.stp sg', rp1.grow g⟩, rx, t1, fun sg2 st2 hw => ?_⟩
    have hw2 : L2.wipe sg2 vs = L2.wipe sg vs := by rw [hw vs ht, wipe_idem]
    refine ⟨hw2, LT.use st2 t2 fun al3 H3 s3 st3 => ?_⟩
    have s13 := sg'.trans s3
    cases k with
    | false =>
      rw [if_neg (by decide)]
      refine ⟨al3, h2, acc, avs, rest, s1.trans s13, s01.trans s13, st3.rp, s13.px1 _ px, s13.kp _ _ hl (rp1.ex _ px).1, ra.stp s13, rs.stp s13, el, ed, by omega, hi, rfl⟩
    | true =>
      rw [if_pos rfl]
      obtain ⟨⟨y', h3⟩, t3, el⟩ := Option.bind_eq_some_iff.mp el
      obtain ⟨⟨rest', h4⟩, t4, el⟩ := Option.map_eq_some_iff.mp el
      cases el
      refine LE.use st3 t3 fun al4 H4 v s4 st4 r4 => ?_
      have s14 := s13.trans s4
      have px4 := s14.px1 _ px
      have hl4 := s14.kp _ _ hl (rp1.ex _ px).1
      refine ⟨avs, hl4, by rw [ra.length]; exact Nat.lt_of_le_of_lt la (Nat.lt_of_lt_of_le hi hlen), ?_⟩
      refine ⟨al4, h3, acc ++ [y'], avs ++ [v], rest', (s1.trans s14).over hD0, (s01.trans s14).over hD, st4.rp.over px4, px4, upd_same, RVs.over px4 ((ra.stp s14).app (.cons r4 .nil)), (rs.stp s14).to (fun z => z.over px4) , t4, by rw [List.append_assoc]; exact ed, by rw [List.length_append, List.length_singleton]; omega, hi, rfl⟩
  · have hi' : it.xs.length ≤ i := by omega
    rw [List.drop_eq_nil_of_le hi'] at el
    unfold lcD at el
    split at el
    · rename_i hst
      cases el
      rw [List.append_nil] at ed
      subst ed
      exact .inl ⟨(wk1 hst).2 hi', f al1 H1 Dn avs s1 rp1 px hD0 hl ra⟩
    · cases el
theorem r_comp (c : Ctx T cl X N sc n) {el t it : Expr} {fs : List Expr} {scope : Scope} {own : List (Str × Nat)} {tg : Tg} {mi : S → Hs → Option (IT × Hs)}
    (hb : blkC N sc scope own = true) (hf : notSet it = true) (hi : PI X t it (LI X.K cl mi)) (hti : tgIn (own.map (·.2)) tg = true)
    (hg : ∀ (s : Shared) (H : Hp) (C : Addr) (clo : List (Str × Addr)) (fp : List Addr), PG (X.blk s H scope (compEnvC scope clo C X.env) fp) t (LG X.K cl tg))
    (ht : ∀ (s : Shared) (H : Hp) (C : Addr) (clo : List (Str × Addr)) (fp : List Addr), PTs (X.blk s H scope (compEnvC scope clo C X.env) fp) fs (LT X.K cl mt))
    (he : ∀ (s : Shared) (H : Hp) (C : Addr) (clo : List (Str × Addr)) (fp : List Addr), PE (X.blk s H scope (compEnvC scope clo C X.env) fp) el (LE X.K cl ma)) :
    PV X (.ListComp el [⟨t, it, fs, 0⟩] scope pos) (LF X.K cl fun se h => (mi se h).bind fun p => if p.1.xs.length ≤ sizeLine then lcD p.1.st tg (wipeD se (own.map (·.2))) mt ma p.1.xs p.2 else none) := by
  have ok : BlkOk X.N X.env.scope scope own := by
    rw [c.hN, c.scp]
    exact blkOk_by hb
  have nd : X.N.Nodup := by rw [c.hN]; exact c.nd
  refine PV.imp (t := tLc (LI X.K cl mi) (LG X.K cl tg) (LT X.K cl mt) (LE X.K cl ma) (own.map (·.2))) ⟨pe_lc c.calm nd hi ok hg ht he (fold_ok hf), fun _ i y py spos h1 h2 h3 => ps_setLc c.calm nd h1 h2 h3 hi ok hg ht he (fold_ok hf)⟩ fun sg H Q i => lc_imp hti i

/-! ### tests -/
theorem r_tru (h0 : tstOk a = true) (ha : PE X a (LE X.K cl ma)) : PT X a (LT X.K cl fun se h => (ma se h).bind fun p => (truD p.2 p.1).map fun k => (k, p.2)) := by
  refine PT.imp (pt_truth ha fun whole => ?_) fun sg H Q ⟨al, se, h, k, h', st, e, f⟩ => ?_
  · cases a with
    | UnaryOp op x pos => cases op <;> first | rfl | cases h0
    | _ => first | rfl | cases h0
  · obtain ⟨⟨x, h1⟩, e1, e⟩ := Option.bind_eq_some_iff.mp e
    obtain ⟨k, e2, e⟩ := Option.map_eq_some_iff.mp e
    cases e
    exact LE.use st e1 fun al1 H1 v s1 st1 r1 => ⟨_, truV_of st1.rp r1 e2, (f.stp s1).now st1.rp⟩
theorem t_and {K : PySem.W.Frag} {sg : L2.St} {H : Hp} {Q : Bool → Hp → Prop} (i : LT K cl (fun se h => (mt se h).bind fun p => match p.1 with | true => mt2 se p.2 | false => some (false, p.2)) sg H Q) : tAnd (LT K cl mt) (LT K cl mt2) sg H Q := by
  obtain ⟨al, se, h, k, h', st, e, f⟩ := i
  obtain ⟨⟨k1, h1⟩, e1, e⟩ := Option.bind_eq_some_iff.mp e
  refine LT.use st e1 fun al1 H1 s1 st1 => ?_
  cases k1 with
  | true => exact ite_tt (LT.use st1 e fun al2 H2 s2 st2 => f al2 H2 (s1.trans s2) st2.rp)
  | false =>
    cases e
    exact ite_ff ((f.stp s1).now st1.rp)
theorem t_or {K : PySem.W.Frag} {sg : L2.St} {H : Hp} {Q : Bool → Hp → Prop} (i : LT K cl (fun se h => (mt se h).bind fun p => match p.1 with | true => some (true, p.2) | false => mt2 se p.2) sg H Q) : tOr (LT K cl mt) (LT K cl mt2) sg H Q := by
  obtain ⟨al, se, h, k, h', st, e, f⟩ := i
  obtain ⟨⟨k1, h1⟩, e1, e⟩ := Option.bind_eq_some_iff.mp e
  refine LT.use st e1 fun al1 H1 s1 st1 => ?_
  cases k1 with
  | false => exact ite_ff (LT.use st1 e fun al2 H2 s2 st2 => f al2 H2 (s1.trans s2) st2.rp)
  | true =>
    cases e
    exact ite_tt ((f.stp s1).now st1.rp)
theorem r_tand {rest : List Expr} (ha : PT X a (LT X.K cl mt)) (hb : PW X (.BoolOp .And (b :: rest) pos) (LT X.K cl mt2)) : PW X (.BoolOp .And (a :: b :: rest) pos) (LT X.K cl fun se h => (mt se h).bind fun p => match p.1 with | true => mt2 se p.2 | false => some (false, p.2)) :=
  PW.imp (pw_and ha hb) fun sg H Q i => t_and i
theorem r_tor {rest : List Expr} (ha : PT X a (LT X.K cl mt)) (hb : PW X (.BoolOp .Or (b :: rest) pos) (LT X.K cl mt2)) : PW X (.BoolOp .Or (a :: b :: rest) pos) (LT X.K cl fun se h => (mt se h).bind fun p => match p.1 with | true => some (true, p.2) | false => mt2 se p.2) :=
  PW.imp (pw_or ha hb) fun sg H Q i => t_or i
theorem r_tnot (ha : PT X a (LT X.K cl mt)) : PT X (.UnaryOp .Not a pos) (LT X.K cl fun se h => (mt se h).map fun p => (!p.1, p.2)) :=
  PT.imp (pt_not ha) fun sg H Q ⟨al, se, h, k, h', st, e, f⟩ => by
    obtain ⟨⟨k1, h1⟩, e1, e⟩ := Option.map_eq_some_iff.mp e
    cases e
    exact LT.use st e1 fun al1 H1 s1 st1 => (f.stp s1).now st1.rp
theorem r_tsn : PTs X [] (LT X.K cl fun _ h => some (true, h)) := ⟨fun pins s sg H Q I i => pts_nil.run pins s sg H Q I (by
  obtain ⟨al, se, h, k, h', st, e, f⟩ := i
  cases e
  exact f.now st.rp)⟩

/-! ### statements -/
theorem asg_imp {K : PySem.W.Frag} {i : Nat} {E : Ends} {sg : L2.St} {H : Hp} (q : LS K cl (fun se h => (ma se h).map fun p => (.nx, se.set i (some p.1), p.2)) E sg H) : tAsg (LE K cl ma) (gName i) E sg H := by
  obtain ⟨al, se, h, r, st, e, f⟩ := q
  obtain ⟨⟨d, h1⟩, e1, e⟩ := Option.map_eq_some_iff.mp e
  cases e
  exact LE.use st e1 fun al1 H1 v s1 st1 r1 => f al1 H1 _ s1 ⟨st1.rs.put r1 i, st1.rp⟩
/-- what stands around a statement -/
structure CtxS (T : Tb) (cl : Nat → Option Addr) (X : Cx) (N : List Str) (sc : Scope) (n : Nat) : Prop extends Ctx T cl X N sc n where
  fn : SetOk X (locB sc)
  xe : X.xe = fun _ _ => False
theorem CtxS.nd' (c : CtxS T cl X N sc n) : X.N.Nodup := by rw [c.hN]; exact c.nd
theorem r_set (c : CtxS T cl X N sc n) {i : Nat} {y : Str} {py : Pos} (h1 : N[i]? = some y) (h2 : locB sc y = true) (h3 : notSC a = true) (ha : PV X a (LE X.K cl ma)) :
    PS X (.Assign [.Name y py] a pos) (LS X.K cl fun se h => (ma se h).map fun p => (.nx, se.set i (some p.1), p.2)) := by
  obtain ⟨s1, s2⟩ := c.fn y h2
  have hi : X.N[i]? = some y := by rw [c.hN]; exact h1
  have plain : swapsWith a (some (.Name y py)) pos.line X.env = pure false → PS X (.Assign [.Name y py] a pos) (LS X.K cl fun se h => (ma se h).map fun p => (.nx, se.set i (some p.1), p.2)) := fun hs =>
    PS.imp (ps_set c.nd' hi s1 ha.pe hs s2) fun E sg H q => asg_imp q
  cases a with
  | ListComp elt gs scope p2 =>
    cases hb : (X.env.blockKind == .function && X.env.kindOf y == some .local && py.line == p2.line && !(scope.names.any fun (n, k) => n == y && (k == .local || k == .cell))) with
    | false =>
      refine plain ?_
      show (pure (X.env.blockKind == .function && X.env.kindOf y == some .local && py.line == (Expr.ListComp elt gs scope p2).pos.line && !(scope.names.any fun (n, k) => n == y && (k == .local || k == .cell))) : Sem Bool) = _
      exact congrArg pure hb
    | true =>
      have hl : X.env.kindOf y = some .local := by
        simp only [Bool.and_eq_true] at hb
        have := hb.1.1.2
        revert this
        cases X.env.kindOf y with
        | none => intro z; cases z
        | some k => cases k <;> intro z <;> first | rfl | cases z
      refine PS.imp (ha.ps rfl i y py pos hi hl ?_) fun E sg H q => asg_imp q
      show (pure (X.env.blockKind == .function && X.env.kindOf y == some .local && py.line == (Expr.ListComp elt gs scope p2).pos.line && !(scope.names.any fun (n, k) => n == y && (k == .local || k == .cell))) : Sem Bool) = _
      exact congrArg pure hb
  | _ => first | exact plain rfl | cases h3
theorem swaps_no {v : Expr} {t : Option Expr} {l : Nat} {env : Env} (h : notComp v = true) : swapsWith v t l env = pure false := by
  cases v <;> first | rfl | cases h
theorem stores_no {v t : Expr} {env : Env} (h : notTup v = true) : swappedStores [t] v env = pure none := by
  cases v <;> first | rfl | (cases t <;> rfl) | cases h
theorem sole_no {v t : Expr} {l : Nat} {env : Env} (h : notComp v = true) : swapsWithSole [t] v l env = pure false := swaps_no h
theorem r_setT (c : CtxS T cl X N sc n) {is : List Nat} {es : List Expr} {k : Nat} {tp : Pos} (h1 : kG (locB sc) N (.tp is) (.Tuple es k tp) = true) (h2 : notComp a = true) (h3 : notTup a = true) (ha : PE X a (LE X.K cl ma)) :
    PS X (.Assign [.Tuple es k tp] a pos) (LS X.K cl fun se h => (ma se h).bind fun p => (putT (.tp is) p.1 se).map fun s => (.nx, s, p.2)) := by
  refine PS.imp (ps_asg ha (r_tg (cl := cl) c.hN c.nd c.calm c.fn h1) (sole_no h2) (stores_no h3)) fun E sg H ⟨al, se, h, r, st, e, f⟩ => ?_
  obtain ⟨⟨d, h1⟩, e1, e⟩ := Option.bind_eq_some_iff.mp e
  obtain ⟨s2, e2, e⟩ := Option.map_eq_some_iff.mp e
  cases e
  exact LE.use st e1 fun al1 H1 v s1 st1 r1 => ⟨al1, se, h1, d, s2, st1, r1, e2, fun sg' st' _ => f al1 H1 _ s1 st'⟩
theorem sub_asg {o i : Expr} {env : Env} (h : plainIx i = true) : ∀ v, assign (.Subscript o i pos) env v = (do
      let ov ← holding [v] (eval o env)
      let iv ← holding [v, ov] (eval i env)
      standAt pos
      holding [v, ov, iv] (setItem ov iv v)
      release [v, ov, iv] []) := by
  intro v
  cases i <;> first | rfl | cases h
/-- a list's item, a dict's entry -/
def rSetA (K : PySem.W.Frag) : V → V → V → Hp → (Hp → Prop) → Prop := fun o i v H Q => rSetL o i v H Q ∨ ∃ a o', o = .ref a ∧ DPut H a i v (upd H a o') ∧ Q (upd H a o')
theorem set_any (hu : X.A.units + 65 < cLine) : PSet X (rSetA X.K) := by
  intro pins s σ H o i v ov iv u Q I ro ri rv h
  rcases h with h | ⟨a, o', rfl, hp, q⟩
  · exact set_list pins s σ H o i v ov iv u Q I ro ri rv h
  · obtain rfl : ov = Value.ref a := ro
    exact d_setItem (by omega) I hp ri rv fun s' I' => ⟨_, I', q⟩
theorem r_sub (c : CtxS T cl X N sc n) {o i : Expr} {mo mi : ME} {tp : Pos} (h2 : notComp a = true) (h3 : plainIx i = true) (ho : PE X o (LE X.K cl mo)) (hi : PE X i (LE X.K cl mi)) (ha : PE X a (LE X.K cl ma)) :
    PS X (.Assign [.Subscript o i tp] a pos) (LS X.K cl fun se h => (ma se h).bind fun p => (mo se p.2).bind fun q => (mi se q.2).bind fun r => (setD r.2 q.1 r.1 p.1).map fun h' => (.nx, se, h')) := by
  refine PS.imp (ps_asg ha (pg_sub ho hi (set_any c.toCtx.hu) (sub_asg h3)) (sole_no h2)) fun E sg H ⟨al, se, h, r, st, e, f⟩ => ?_
  obtain ⟨⟨d, h1⟩, e1, e⟩ := Option.bind_eq_some_iff.mp e
  obtain ⟨⟨x, h2⟩, e2, e⟩ := Option.bind_eq_some_iff.mp e
  obtain ⟨⟨y, h3⟩, e3, e⟩ := Option.bind_eq_some_iff.mp e
  obtain ⟨h4, e4, e⟩ := Option.map_eq_some_iff.mp e
  cases e
  refine LE.use st e1 fun al1 H1 v s1 st1 r1 => LE.use st1 e2 fun al2 H2 u s2 st2 r2 => LE.use st2 e3 fun al3 H3 w s3 st3 r3 => ?_
  simp only at e4
  unfold setD at e4
  split at e4
  rotate_left
  · cases e4
  rename_i _ nn _
  split at e4
  · rename_i xs k hx
    obtain ⟨j, hj, e5⟩ := Option.map_eq_some_iff.mp e4
    cases e5
    obtain ⟨t, rfl, ht, ws, hq, rs⟩ := st3.rp.ref (r2.stp s3) hx
    cases r3
    have hm : t ∈ al3.r := List.mem_of_getElem? ht
    have sw : Stp al3 H3 al3 (upd H3 t (.lst (ws.set j v))) := Stp.wr hm
    have rv := (r1.stp (s2.trans s3)).stp sw
    have st4 : Stt X.K cl sg (upd H3 t (.lst (ws.set j v))) al3 se (h3.set nn (.lst (xs.set j d))) := ⟨st3.rs.stp sw, st3.rp.wr ht ⟨_, upd_same, RVs.set rv j (rs.stp sw)⟩⟩
    exact .inl ⟨t, ws, k, j, rfl, rfl, hq, by rw [rs.length]; exact hj, f al3 _ sg (((s1.trans s2).trans s3).trans sw) st4⟩
  · obtain ⟨t, o', rfl, hm, hp, rp'⟩ := dput_of st3.rp (r2.stp s3) r3 (r1.stp (s2.trans s3)) e4
    have sw : Stp al3 H3 al3 (upd H3 t o') := Stp.wr hm
    exact .inr ⟨t, o', rfl, hp, f al3 _ sg (((s1.trans s2).trans s3).trans sw) ⟨st3.rs.stp sw, rp'⟩⟩
theorem augD_inv {op : Operator} {x y z : D} (h : augD op x y = some z) : ∃ i j, x = .int i ∧ y = .int j ∧ ((op = .Add ∧ z = .int (i + j)) ∨ (op = .Sub ∧ z = .int (i - j))) := by
  unfold augD at h
  split at h
  · cases h; exact ⟨_, _, rfl, rfl, .inl ⟨rfl, rfl⟩⟩
  · cases h; exact ⟨_, _, rfl, rfl, .inr ⟨rfl, rfl⟩⟩
  · cases h
theorem r_aug (c : CtxS T cl X N sc n) {i : Nat} {y : Str} {py : Pos} {op : Operator} (h1 : N[i]? = some y) (h2 : locB sc y = true) (ha : PE X a (LE X.K cl ma)) :
    PS X (.AugAssign (.Name y py) op a pos) (LS X.K cl fun se h => match se[i]? with
      | some (some x) => (ma se h).bind fun p => (augD op x p.1).map fun z => (.nx, se.set i (some z), p.2)
      | _ => none) := by
  obtain ⟨s1, s2⟩ := c.fn y h2
  have hi : X.N[i]? = some y := by rw [c.hN]; exact h1
  have inv : ∀ {se : S} {h : Hs} {r : Fl × S × Hs}, (match se[i]? with
      | some (some x) => (ma se h).bind fun p => (augD op x p.1).map fun z => (Fl.nx, se.set i (some z), p.2)
      | _ => none) = some r → ∃ k j z h1, se[i]? = some (some (.int k)) ∧ ma se h = some (.int j, h1) ∧ r = (.nx, se.set i (some z), h1) ∧ ((op = .Add ∧ z = .int (k + j)) ∨ (op = .Sub ∧ z = .int (k - j))) := by
    intro se h r e
    split at e
    · rename_i x ex
      obtain ⟨⟨d, h1⟩, e1, e5⟩ := Option.bind_eq_some_iff.mp e
      obtain ⟨z, e2, e6⟩ := Option.map_eq_some_iff.mp e5
      obtain ⟨k, j, rfl, e3, e4⟩ := augD_inv e2
      have e3 : d = .int j := e3
      subst e3
      exact ⟨k, j, z, h1, ex, e1, e6.symm, e4⟩
    · cases e
  have go : ∀ (f : Int → Int → Int), PIp X op (ipI f) → (∀ k j z, ((op = .Add ∧ z = D.int (k + j)) ∨ (op = .Sub ∧ z = .int (k - j))) → z = .int (f k j)) → PS X (.AugAssign (.Name y py) op a pos) (LS X.K cl fun se h => match se[i]? with
      | some (some x) => (ma se h).bind fun p => (augD op x p.1).map fun z => (.nx, se.set i (some z), p.2)
      | _ => none) := by
    intro ff hip hz
    refine PS.imp (ps_aug c.nd' hi s1 ha hip s2) fun E sg H ⟨al, se, h, r, st, e, f⟩ => ?_
    obtain ⟨k, j, z, h1, ex, e1, rfl, e4⟩ := inv e
    have ez := hz k j z e4
    subst ez
    obtain ⟨v, ev, rv⟩ := st.rs.at_ i _ ex
    cases rv
    refine ⟨_, ev, LE.use st e1 fun al1 H1 v s1 st1 r1 => ?_⟩
    cases r1
    exact ⟨_, _, rfl, rfl, f al1 H1 _ s1 ⟨st1.rs.put (.int _) i, st1.rp⟩⟩
  by_cases h3 : op = .Add
  · subst h3
    exact go _ ip_add fun k j z h => by rcases h with ⟨_, h⟩ | ⟨h, _⟩; exact h; cases h
  · by_cases h4 : op = .Sub
    · subst h4
      exact go _ ip_sub fun k j z h => by rcases h with ⟨h, _⟩ | ⟨_, h⟩; cases h; exact h
    · refine PS.imp ps_never fun E sg H ⟨al, se, h, r, st, e, f⟩ => ?_
      obtain ⟨k, j, z, h1, ex, e1, rfl, e4⟩ := inv e
      rcases e4 with ⟨z, _⟩ | ⟨z, _⟩
      · exact h3 z
      · exact h4 z
theorem r_ret (ha : PE X a (LE X.K cl ma)) : PS X (.Return (some a) pos) (LS X.K cl fun se h => (ma se h).map fun p => (.rt p.1, se, p.2)) :=
  PS.imp (ps_ret ha) fun E sg H ⟨al, se, h, r, st, e, f⟩ => by
    obtain ⟨⟨d, h1⟩, e1, e⟩ := Option.map_eq_some_iff.mp e
    cases e
    exact LE.use st e1 fun al1 H1 v s1 st1 r1 => f al1 H1 v s1 st1.rp r1
theorem r_retN : PS X (.Return none pos) (LS X.K cl fun se h => some (.rt .non, se, h)) :=
  PS.imp ps_retN fun E sg H ⟨al, se, h, r, st, e, f⟩ => by
    cases e
    exact f al H .non (Stp.refl _ _) st.rp .non
theorem r_exp (h0 : notComp a = true) (ha : PE X a (LE X.K cl ma)) : PS X (.Expr a pos) (LS X.K cl fun se h => (ma se h).map fun p => (.nx, se, p.2)) :=
  PS.imp (ps_expr ha (swaps_no h0)) fun E sg H ⟨al, se, h, r, st, e, f⟩ => by
    obtain ⟨⟨d, h1⟩, e1, e⟩ := Option.map_eq_some_iff.mp e
    cases e
    exact LE.use st e1 fun al1 H1 v s1 st1 r1 => f al1 H1 sg s1 st1
theorem r_if {x y : List Stmt} {m1 m2 : MS} (ht : PT X a (LT X.K cl mt)) (h1 : PSs X x (LS X.K cl m1)) (h2 : PSs X y (LS X.K cl m2)) :
    PS X (.If a x y pos) (LS X.K cl fun se h => (mt se h).bind fun p => match p.1 with | true => m1 se p.2 | false => m2 se p.2) :=
  PS.imp (ps_if ht h1 h2) fun E sg H ⟨al, se, h, r, st, e, f⟩ => by
    obtain ⟨⟨k, h1⟩, e1, e⟩ := Option.bind_eq_some_iff.mp e
    refine LT.use st e1 fun al1 H1 s1 st1 => ?_
    cases k with
    | true => exact ite_tt ⟨al1, se, h1, r, st1, e, f.stp s1⟩
    | false => exact ite_ff ⟨al1, se, h1, r, st1, e, f.stp s1⟩
theorem r_brk : PS X (.Break pos) (LS X.K cl fun se h => some (.bk, se, h)) :=
  PS.imp ps_break fun E sg H ⟨al, se, h, r, st, e, f⟩ => by cases e; exact f al H sg (Stp.refl _ _) st
theorem r_pss : PS X (.Pass pos) (LS X.K cl fun se h => some (.nx, se, h)) :=
  PS.imp ps_pass fun E sg H ⟨al, se, h, r, st, e, f⟩ => by cases e; exact f al H sg (Stp.refl _ _) st
theorem r_nev {s : Stmt} : PS X s (LS X.K cl fun _ _ => none) :=
  PS.imp ps_never fun E sg H ⟨al, se, h, r, st, e, f⟩ => by cases e
theorem r_bnil : PSs X [] (LS X.K cl fun se h => some (.nx, se, h)) :=
  PSs.imp pss_nil fun E sg H ⟨al, se, h, r, st, e, f⟩ => by cases e; exact f al H sg (Stp.refl _ _) st
theorem r_bcons {s : Stmt} {x : List Stmt} {m1 m2 : MS} (h1 : PS X s (LS X.K cl m1)) (h2 : PSs X x (LS X.K cl m2)) :
    PSs X (s :: x) (LS X.K cl fun se h => (m1 se h).bind fun r => match r.1 with | .nx => m2 r.2.1 r.2.2 | _ => some r) :=
  PSs.imp (pss_cons h1 h2) fun E sg H ⟨al, se, h, r, st, e, f⟩ => by
    obtain ⟨⟨r1, se1, h1⟩, e1, e⟩ := Option.bind_eq_some_iff.mp e
    refine ⟨al, se, h, _, st, e1, ?_⟩
    cases r1 with
    | nx => exact fun al' H' sg' s st' => ⟨al', se1, h1, r, st', e, f.stp s⟩
    | bk => cases e; exact f
    | ct => cases e; exact f
    | rt d => cases e; exact f
theorem CtxS.own (c : CtxS T cl X N sc n) : PassesOwn (model X.prog X.w) X.A X.env X.xe := by
  rw [c.xe]
  exact PassesOwn.never
theorem r_for (c : CtxS T cl X N sc n) {t it : Expr} {x : List Stmt} {tg : Tg} {mi : S → Hs → Option (IT × Hs)} {m1 : MS} (h0 : notSet it = true) (hi : PI X t it (LI X.K cl mi)) (hg : kG (locB sc) N tg t = true) (hb : PSs X x (LS X.K cl m1)) :
    PS X (.For t it x [] pos) (LS X.K cl fun se h => (mi se h).bind fun p => forD p.1.st tg m1 p.1.xs se p.2) := by
  refine PS.imp (ps_for c.own c.calm hi (r_tg (cl := cl) c.hN c.nd c.calm c.fn hg) hb (fold_ok h0)) fun E sg H ⟨al, se, h, r, st, e, f⟩ => ?_
  obtain ⟨⟨jt, h1⟩, e1, e⟩ := Option.bind_eq_some_iff.mp e
  refine ⟨al, se, h, jt, h1, st, e1, fun al0 H0 J s0 rp0 wk => ?_⟩
  refine ⟨fun i m sg1 H1 => ∃ al1 se1 h1', Stp al H al1 H1 ∧ Stp al0 H0 al1 H1 ∧ Stt X.K cl sg1 H1 al1 se1 h1' ∧ forD jt.st tg m1 (jt.xs.drop i) se1 h1' = some r ∧ i ≤ jt.xs.length ∧ m = jt.xs.length - i, ?_, ?_⟩
  · exact ⟨jt.xs.length - 0, al0, se, h1, s0, Stp.refl _ _, ⟨st.rs.stp s0, rp0⟩, e, Nat.zero_le _, rfl⟩
  rintro i m sg1 H1 ⟨al1, se1, h1', s1, s01, st1, el, li, em⟩
  have wk1 := wk i al1 H1 h1' s01 st1.rp
  by_cases hi : i < jt.xs.length
  · rw [List.drop_eq_getElem_cons hi] at el
    unfold forD at el
    split at el
    rotate_left
    · cases el
    rename_i hst
    obtain ⟨s2, t1, el⟩ := Option.bind_eq_some_iff.mp el
    obtain ⟨⟨r1, se2, h2⟩, t2, el⟩ := Option.bind_eq_some_iff.mp el
    obtain ⟨w1, w2⟩ := wk1 hst
    obtain ⟨w3, w4⟩ := w1 _ (List.getElem?_eq_getElem hi)
    refine .inr ⟨w3, _, fun sg' H' hh => ⟨jt.xs.length - (i + 1), by omega, hh⟩, fun x H' y => ?_⟩
    obtain ⟨g, rx⟩ := w4 x H' y
    refine ⟨al1, se1, h1', _, s2, st1.grow g, rx, t1, fun sg2 st2 _ => ⟨al1, s2, h1', _, st2, t2, ?_⟩⟩
    have sg' : Stp al1 H1 al1 H' := Stp.grow g
    cases r1 with
    | nx => exact fun al' H' sg3 s st' => ⟨al', se2, h2, s1.trans (sg'.trans s), s01.trans (sg'.trans s), st', el, hi, rfl⟩
    | ct => exact fun al' H' sg3 s st' => ⟨al', se2, h2, s1.trans (sg'.trans s), s01.trans (sg'.trans s), st', el, hi, rfl⟩
    | bk =>
      cases el
      exact fun al' H' sg3 s st' => f al' H' sg3 (s1.trans (sg'.trans s)) st'
    | rt d =>
      cases el
      exact fun al' H' v s rp rv => f al' H' v (s1.trans (sg'.trans s)) rp rv
  · have hi' : jt.xs.length ≤ i := by omega
    rw [List.drop_eq_nil_of_le hi'] at el
    unfold forD at el
    split at el
    · rename_i hst
      cases el
      exact .inl ⟨(wk1 hst).2 hi', f al1 H1 sg1 s1 st1⟩
    · cases el
theorem r_whl (c : CtxS T cl X N sc n) {x : List Stmt} {m1 : MS} (ht : PT X a (LT X.K cl mt)) (hb : PSs X x (LS X.K cl m1)) : PS X (.While a x [] pos) (LS X.K cl (whD mt m1)) := by
  refine PS.imp (ps_while c.own ht hb) fun E sg H ⟨al, se, h, r, st, e, f⟩ => ?_
  obtain ⟨k, e⟩ : ∃ k, whN mt m1 k se h = some r := by
    unfold whD at e
    split at e
    · exact ⟨_, e⟩
    · cases e
  refine ⟨fun m sg1 H1 => ∃ al1 se1 h1, Stp al H al1 H1 ∧ Stt X.K cl sg1 H1 al1 se1 h1 ∧ whN mt m1 m se1 h1 = some r, ⟨k, al, se, h, Stp.refl _ _, st, e⟩, ?_⟩
  rintro m sg1 H1 ⟨al1, se1, h1, s1, st1, e1⟩
  cases m with
  | zero => simp [whN] at e1
  | succ m =>
    unfold whN at e1
    obtain ⟨⟨b, h2⟩, t1, e1⟩ := Option.bind_eq_some_iff.mp e1
    refine LT.use st1 t1 fun al2 H2 s2 st2 => ?_
    cases b with
    | false =>
      cases e1
      exact ite_ff (f al2 H2 sg1 (s1.trans s2) st2)
    | true =>
      obtain ⟨⟨r1, se2, h3⟩, t2, e1⟩ := Option.bind_eq_some_iff.mp e1
      refine ite_tt ⟨_, fun sg' H' hh => ⟨m, Nat.lt_succ_self m, hh⟩, al2, se1, h2, _, st2, t2, ?_⟩
      have s12 := s1.trans s2
      cases r1 with
      | nx => exact fun al' H' sg3 s st' => ⟨al', se2, h3, s12.trans s, st', e1⟩
      | ct => exact fun al' H' sg3 s st' => ⟨al', se2, h3, s12.trans s, st', e1⟩
      | bk =>
        cases e1
        exact fun al' H' sg3 s st' => f al' H' sg3 (s12.trans s) st'
      | rt d =>
        cases e1
        exact fun al' H' v s rp rv => f al' H' v (s12.trans s) rp rv
end
end Cr
/-! Core 4d: instances, dict displays. -/
namespace Cr
open PySem PySem.Spec PyProof.Rows L2
section
variable {K : PySem.W.Frag} {cl : Nat → Option Addr} {H H' : Hp} {al al' : Al} {h h' : Hs}
/-- a new changed thing -/
theorem new_thing (rp : Rp K cl H al h) {p : Addr} {u : HO} {o : O} (hp : H p = none) (q : RO K cl (upd H p u) ((al.hide p).more p) p o) :
    Stp al H ((al.hide p).more p) (upd H p u) ∧ Rp K cl (upd H p u) ((al.hide p).more p) (h ++ [o]) ∧ RV K (upd H p u) ((al.hide p).more p) (.ref p) (.ref h.length) := by
  have rl : al.r.length = h.length := rp.len
  refine ⟨(Stp.hide hp).more hp (rp.free hp).2, (rp.hid hp).unhide List.mem_cons_self q, .ref ?_⟩
  show (al.r ++ [p])[h.length]? = some p
  rw [← rl, List.getElem?_append_right (Nat.le_refl _), Nat.sub_self]
  rfl
theorem FinE.thing {o : O} {Q : VK} (f : FinE K cl al H (h ++ [o]) (.ref h.length) Q) (rp : Rp K cl H al h) {u : HO} : ∀ p, H p = none → RO K cl (upd H p u) ((al.hide p).more p) p o → Q (.ref p) (upd H p u) := fun p hp q => by
  obtain ⟨s, r, v⟩ := new_thing rp hp q
  exact f _ _ _ s r v
end
section
variable {T : Tb} {cl : Nat → Option Addr} {X : Cx} {N : List Str} {sc : Scope} {n : Nat} {a b : Expr} {pos p : Pos} {ma mb : ME}
theorem Ctx.field (c : Ctx T cl X N sc n) {C : Nat} {f : Str} (h : T.fok C f = true) : ∃ A, cl C = some A ∧ Cls X.K A ∧ NoAttr X.K A f := by
  unfold Tb.fok at h
  split at h
  · rename_i d e
    obtain ⟨A, h1, h2, h3, _⟩ := c.cls C d e
    exact ⟨A, h1, h2, h3 f (of_decide_eq_true h)⟩
  · cases h
theorem r_fld (c : Ctx T cl X N sc n) {f : Str} (hb : baseOk a = true) (ha : PE X a (LE X.K cl ma)) : PE X (.Attribute a f pos) (LE X.K cl fun se h => (ma se h).bind fun p => (fldD T.fok p.2 f p.1).map fun d => (d, p.2)) := by
  refine PE.imp (pe_fld ha (base_ok hb)) fun sg H Q ⟨al, se, h, d, h', st, e, ff⟩ => ?_
  obtain ⟨⟨x, h1⟩, e1, e⟩ := Option.bind_eq_some_iff.mp e
  obtain ⟨y, e2, e⟩ := Option.map_eq_some_iff.mp e
  cases e
  refine LE.use st e1 fun al1 H1 v s1 st1 r1 => ?_
  simp only at e2
  unfold fldD at e2
  split at e2
  rotate_left
  · cases e2
  split at e2
  rotate_left
  · cases e2
  rename_i C fs hx
  split at e2
  rotate_left
  · cases e2
  rename_i hf
  obtain ⟨A, c1, c2, c3⟩ := c.field hf
  obtain ⟨ad, rfl, _, A', dx, ws, hA, hH, rk⟩ := st1.rp.ref r1 hx
  rw [c1] at hA
  cases hA
  rcases rk.look (f := f) with ⟨z, _⟩ | ⟨d', v', z1, z2, z3⟩
  · rw [z] at e2; cases e2
  · rw [z1] at e2
    cases e2
    exact ⟨ad, A, dx, ws, v', rfl, hH, c2, c3, z2, (ff.stp s1).now st1.rp z3⟩
theorem r_fset (c : CtxS T cl X N sc n) {f : Str} {o : Expr} {mo : ME} {tp : Pos} (h2 : notComp a = true) (ho : PE X o (LE X.K cl mo)) (ha : PE X a (LE X.K cl ma)) :
    PS X (.Assign [.Attribute o f tp] a pos) (LS X.K cl fun se h => (ma se h).bind fun p => (mo se p.2).bind fun q => (fputD T.fok q.2 f p.1 q.1).map fun h' => (.nx, se, h')) := by
  refine PS.imp (ps_fld ho ha (swaps_no h2)) fun E sg H ⟨al, se, h, r, st, e, ff⟩ => ?_
  obtain ⟨⟨d, h1⟩, e1, e⟩ := Option.bind_eq_some_iff.mp e
  obtain ⟨⟨x, h2⟩, e2, e⟩ := Option.bind_eq_some_iff.mp e
  obtain ⟨h4, e4, e⟩ := Option.map_eq_some_iff.mp e
  cases e
  refine LE.use st e1 fun al1 H1 v s1 st1 r1 => LE.use st1 e2 fun al2 H2 u s2 st2 r2 => ?_
  simp only at e4
  unfold fputD at e4
  split at e4
  rotate_left
  · cases e4
  split at e4
  rotate_left
  · cases e4
  rename_i C fs hx
  split at e4
  rotate_left
  · cases e4
  rename_i hf
  rw [Bool.and_eq_true, decide_eq_true_eq] at hf
  cases e4
  obtain ⟨A, c1, c2, c3⟩ := c.toCtx.field hf.1
  obtain ⟨ad, rfl, had, A', dx, ws, hA, hH, rk⟩ := st2.rp.ref r2 hx
  rw [c1] at hA
  cases hA
  have sw : Stp al2 H2 al2 (upd H2 ad (.ins A dx (L2.putF f v ws))) := Stp.wr (List.mem_of_getElem? had)
  refine ⟨ad, A, dx, ws, rfl, hH, c2, c3, by rw [rk.length]; exact hf.2, ff al2 _ sg ((s1.trans s2).trans sw) ⟨st2.rs.stp sw, st2.rp.wr had ⟨A, dx, _, c1, upd_same, RKs.putF ((r1.stp s2).stp sw) (rk.stp sw)⟩⟩⟩
theorem call_len {f : Nat} {d : Df} {k : Nat} {ds : List D} {h h' : Hs} {r : D} (e : T.P[f]? = some d) (ec : call T k f ds h = some (r, h')) : ds.length = d.ps.length := by
  cases k with
  | zero => simp [call] at ec
  | succ k =>
    simp only [call, e] at ec
    split at ec
    · assumption
    · cases ec
theorem r_new (c : Ctx T cl X N sc n) {C : Nat} {cd : Cd} (h1 : T.Cs[C]? = some cd) (h2 : glB sc cd.nm = true) (h3 : nameOk cd.nm = true) :
    PE X (.Call (.Name cd.nm p) [] [] pos) (LE X.K cl fun _ h => (T.ini C).bind fun f => (call T (n - 1) f [.ref h.length] (h ++ [.ins C []])).bind fun p => match p.1 with
      | .non => some (.ref h.length, p.2)
      | _ => none) := by
  obtain ⟨n1, n2, n3⟩ := nameOk_ok h3
  obtain ⟨A, c1, c2, c3, c4, a, fd, d, d1, d2, d3, d4, F⟩ := c.cls C cd h1
  cases n with
  | zero =>
    refine ⟨fun pins s sg H Q I hh => ?_⟩
    obtain ⟨al, se, h, d, h', st, e, ff⟩ := hh
    obtain ⟨f, e1, e⟩ := Option.bind_eq_some_iff.mp e
    obtain ⟨q, e2, e⟩ := Option.bind_eq_some_iff.mp e
    simp [call] at e2
  | succ n =>
    refine PE.imp (pe_make0 d3 F c.room (c.gl h2) d2 d4 .nil (pass0 (X := X)) n1) fun sg H Q ⟨al, se, h, d', h', st, e, ff⟩ => ?_
    obtain ⟨f, e1, e⟩ := Option.bind_eq_some_iff.mp e
    have ef : f = cd.ini := by
      unfold Tb.ini at e1
      rw [h1] at e1
      exact (Option.some.inj e1).symm
    subst ef
    obtain ⟨⟨r, h2'⟩, e2, e⟩ := Option.bind_eq_some_iff.mp e
    intro x dx hx hdx hne
    have hg : ∀ b o, H b = some o → upd H dx (.own x) b = some o := same_upd hdx
    have hx' : upd H dx (.own x) x = none := by rw [upd_ne hne.symm]; exact hx
    have rp1 := st.rp.grow (H' := upd H dx (.own x)) hg
    obtain ⟨s2, rp2, v2⟩ := new_thing (o := .ins C []) (u := .ins A dx []) rp1 hx' ⟨A, dx, [], c1, upd_same, .nil⟩
    have s12 := (Stp.grow (al := al) hg).trans s2
    have hl := call_len d1 e2
    refine ⟨hl, _, _, [.ref h.length], r, h2', rp2, .cons v2 .nil, e2, fun al3 H3 v s3 rp3 r3 => ?_⟩
    cases r with
    | non =>
      cases e
      cases r3
      exact ⟨rfl, ff al3 H3 _ (s12.trans s3) rp3 (v2.stp s3)⟩
    | _ => cases e
theorem stars_all {env : Env} {pos : Pos} : ∀ {es : List Expr} {a : CA}, kA T N sc a es = true → (backTo pos (starEach es env)).all (fun x => !x.1) = true
  | [], _, _ => rfl
  | e :: es, a, h => by
    cases a with
    | nil => simp [kA] at h
    | cons ce ca =>
      simp only [kA, Bool.and_eq_true] at h
      rw [star_ok h.1.1]
      have ih := stars_all (pos := pos) (env := env) h.2
      unfold backTo at ih ⊢
      rw [List.map_cons, List.all_cons, ih]
      rfl
theorem meth_ht {o : Expr} {name : Str} {apos pos : Pos} {args : List Expr} {env : Env} (hb : attributeBase o name env (eval o env) = eval o env) (hfew : (backTo pos (starEach args env)).all (fun x => !x.1) = true) (hn : args.length < 20) (hline : (apos.endLine == pos.line) = true) :
    eval (.Call (.Attribute o name apos) args [] pos) env = (do
      let ov ← eval o env
      standAt apos.atName
      let (f, first) ← holding [ov] (getMethod ov name (do return (← importBound o env).getD true))
      callWith pos f first (backTo pos (starEach args env)) (backToKw pos (keywordEach [] env))) := by
  have hform : methodCallForm (args.length + ([] : List Keyword).length) (backTo pos (starEach args env)) (backToKw pos (keywordEach [] env)) = true := by
    unfold methodCallForm
    rw [hfew]
    show (true && decide (args.length + 0 + 0 < 30)) = true
    rw [decide_eq_true (by omega)]
    rfl
  have hpos : methodCallPos true o env apos pos = pure pos := by unfold methodCallPos; simp [hline]
  rw [arm_eval_Call, hb]
  congr 1
  funext ov
  congr 1
  funext _
  unfold methodCall
  rw [hform]
  show (holding [ov] (getMethod ov name (do return (← importBound o env).getD true)) >>= fun x => methodCallPos true o env apos pos >>= fun q => _) = _
  rw [hpos]
  rfl
theorem kD_len : ∀ {kvs : List (Int × Int)} {ks : List (Option Expr)} {vs : List Expr}, kD kvs ks vs = true → kvs.length = ks.length
  | [], [], [], _ => rfl
  | (i, j) :: kvs, some (.Constant (.int i') _ _) :: ks, (.Constant (.int j') _ _) :: vs, h => by
    simp only [kD, Bool.and_eq_true] at h
    exact congrArg (· + 1) (kD_len h.2)
theorem r_mcl (c : Ctx T cl X N sc n) {C : Nat} {cd : Cd} {m : Str} {f : Nat} {es : List Expr} {e0 : Expr} {ap : Pos} {mr : S → Hs → Option (List D × Hs)} {ca : CA} (h1 : T.Cs[C]? = some cd) (h2 : (m, f) ∈ cd.ms) (hb : nameE a = true) (hline : (ap.endLine == pos.line) = true) (hlen : (e0 :: es).length < 20)
    (ha : PE X a (LE X.K cl ma)) (hk : kA T N sc ca (e0 :: es) = true) (hr : PA X (e0 :: es) (LA X.K cl mr)) :
    PE X (.Call (.Attribute a m ap) (e0 :: es) [] pos) (LE X.K cl fun se h => (ma se h).bind fun p => if isIns p.2 C m p.1 then (mr se p.2).bind fun q => call T n f (p.1 :: q.1) q.2 else none) := by
  obtain ⟨A, c1, c2, c3, c4, _⟩ := c.cls C cd h1
  obtain ⟨ad, fd, d, d1, d2, d3, F⟩ := c4 (m, f) h2
  cases ca with
  | nil => simp [kA] at hk
  | cons ce ca =>
    have hk0 := hk
    simp only [kA, Bool.and_eq_true] at hk
    have go : PE X (.Call (.Attribute a m ap) (e0 :: es) [] pos) (tMeth A m (spOf X.K cl d.ps.length (call T n f)) [] E0 (LE X.K cl ma) (LA X.K cl mr)) := by
      cases a with
      | Name _ _ => exact pe_meth ha c2 d2 F c.room d3 .nil (pass0 (X := X)) hr (star_ok hk.1.1) (stars_ok hk.2) (meth_ht rfl (stars_all hk0) hlen hline)
      | _ => cases hb
    refine PE.imp go fun sg H Q ⟨al, se, h, d', h', st, e, ff⟩ => ?_
    obtain ⟨⟨x, h1⟩, e1, e⟩ := Option.bind_eq_some_iff.mp e
    simp only at e
    split at e
    rotate_left
    · cases e
    rename_i hi
    obtain ⟨⟨xs, h2⟩, e2, e5⟩ := Option.bind_eq_some_iff.mp e
    refine LE.use st e1 fun al1 H1 v s1 st1 r1 => ?_
    unfold isIns at hi
    split at hi
    rotate_left
    · cases hi
    split at hi
    rotate_left
    · cases hi
    rename_i C' fs hx
    rw [Bool.and_eq_true, decide_eq_true_eq] at hi
    obtain ⟨rfl, hno⟩ := hi
    obtain ⟨ad', rfl, _, A', dx, ws, hA, hH, rk⟩ := st1.rp.ref r1 hx
    rw [c1] at hA
    cases hA
    have hw : ws.lookup m = none := by
      rcases rk.look (f := m) with ⟨_, z⟩ | ⟨d', v', z1, _, _⟩
      · exact z
      · rw [z1] at hno; cases hno
    refine ⟨ad', dx, ws, rfl, hH, hw, LA.use st1 e2 fun al2 H2 vs s2 st2 r2 => ?_⟩
    rw [List.append_nil]
    have hl := call_len d1 e5
    refine ⟨?_, al2, _, _, d', h', st2.rp, .cons (r1.stp s2) r2, e5, ff.stp (s1.trans s2)⟩
    rw [← hl, List.length_cons, List.length_cons, r2.length]
theorem r_dnK : PE X (.Dict [] [] pos) (LE X.K cl fun _ h => some (.ref h.length, h ++ [.dK []])) :=
  PE.imp pe_dnewK fun sg H Q ⟨al, se, h, d, h', st, e, ff⟩ => by
    cases e
    exact fun p hp => ff.thing st.rp p hp ⟨[], upd_same, .nil⟩
theorem r_dnT : PE X (.Dict [] [] pos) (LE X.K cl fun _ h => some (.ref h.length, h ++ [.dT []])) :=
  PE.imp pe_dnewT fun sg H Q ⟨al, se, h, d, h', st, e, ff⟩ => by
    cases e
    exact fun p hp => ff.thing st.rp p hp ⟨[], upd_same, .nil⟩
def trsK (kvs : List (Int × Int)) : List (TE × TE) := kvs.map fun kv => (tC (.int kv.1), tC (.int kv.2))
theorem pps_K : ∀ {kvs : List (Int × Int)} {ks : List (Option Expr)} {vs : List Expr}, kD kvs ks vs = true → PPs X pos ks vs (trsK kvs) ∧ ks.all (·.isSome) = true ∧ ks.length = vs.length
  | [], [], [], _ => ⟨pps_nil, rfl, rfl⟩
  | (i, j) :: kvs, some (.Constant (.int i') _ _) :: ks, (.Constant (.int j') _ _) :: vs, h => by
    simp only [kD, Bool.and_eq_true, decide_eq_true_eq] at h
    obtain ⟨⟨rfl, rfl⟩, h3⟩ := h
    obtain ⟨p1, p2, p3⟩ := pps_K h3
    exact ⟨pps_cons pe_int pe_int p1, by rw [List.all_cons, p2]; rfl, congrArg (· + 1) p3⟩
theorem pairs_K : ∀ (kvs : List (Int × Int)) (sg : L2.St) (H : Hp) (Q : List (V × V) → Hp → Prop), Q (kvs.map fun kv => (V.int kv.1, V.int kv.2)) H → tPairs (trsK kvs) sg H Q
  | [], sg, H, Q, h => h
  | kv :: kvs, sg, H, Q, h => pairs_K kvs sg H _ h
theorem merge_K {K : PySem.W.Frag} {H : Hp} {al : Al} : ∀ (kvs : List (Int × Int)) {ws : List (L2.Key × V)} {ds : List (L2.Key × D)}, RKs K H al ws ds →
    RKs K H al (mergeK ws (kvs.map fun kv => ((.inl kv.1 : L2.Key), V.int kv.2))) (kvs.foldl (fun acc kv => putD acc (.inl kv.1) (.int kv.2)) ds)
  | [], _, _, r => r
  | kv :: kvs, _, _, r => merge_K kvs (r.put (.int kv.2))
theorem r_dlt {kvs : List (Int × Int)} {k : Option Expr} {ks : List (Option Expr)} {vs : List Expr} (hl : (k :: ks).length ≤ 15) (hk : kD kvs (k :: ks) vs = true) : PE X (.Dict (k :: ks) vs pos) (LE X.K cl fun _ h => some (.ref h.length, h ++ [.dK (dltD kvs)])) := by
  obtain ⟨p1, p2, p3⟩ := pps_K (X := X) (pos := pos) hk
  refine PE.imp (pe_disp p1 p2 p3 (by simp) hl) fun sg H Q ⟨al, se, h, d, h', st, e, ff⟩ => ?_
  cases e
  intro p hp
  refine pairs_K kvs sg _ _ ⟨upd_same, kvs.map fun kv => ((.inl kv.1 : L2.Key), V.int kv.2), ?_, ?_, ?_⟩
  · rw [List.map_map]
    rfl
  · rw [List.length_map, kD_len hk]
    exact hl
  · rw [upd_upd]
    exact ff.thing st.rp p hp ⟨_, upd_same, merge_K kvs .nil⟩
end
end Cr
/-! Core 5: a checked core text answers as its evaluator says. -/
namespace Cr
open PySem PySem.Spec PyProof.Rows L2
section
variable {T : Tb} {cl : Nat → Option Addr} {N : List Str} {n : Nat}
theorem Ctx.blk {X : Cx} {sc : Scope} (c : Ctx T cl X N sc n) (s : Shared) (H : Hp) (scope : Scope) (C : Addr) (clo : List (Str × Addr)) (fp : List Addr) : Ctx T cl (X.blk s H scope (compEnvC scope clo C X.env) fp) N (relS scope sc) n :=
  ⟨c.hN, c.nd, by show relS scope X.env.scope = _; rw [c.scp], c.calm, c.room, c.fns, c.glb, c.blt, c.gcd, c.cls⟩
theorem blk_set {X : Cx} (s : Shared) (H : Hp) (scope : Scope) (C : Addr) (clo : List (Str × Addr)) (fp : List Addr) : SetOk (X.blk s H scope (compEnvC scope clo C X.env) fp) (locB scope) := by
  intro x hx
  rcases locB_ok hx with h | h
  · have z := lookup_relS_keep (sc := X.env.scope) (by decide) h
    exact ⟨.inl z, .inr z⟩
  · have z := lookup_relS_keep (sc := X.env.scope) (by decide) h
    refine ⟨.inr z, .inl ?_⟩
    show (scope.names.lookup x == some .cell) = true
    rw [h]
    rfl
theorem PTs.imp' {X : Cx} {es : List Expr} {t t' : TT} (p : PTs X es t) (i : ∀ sg H Q, t' sg H Q → t sg H Q) : PTs X es t' := ⟨fun pins s sg H Q I h => p.run pins s sg H Q I (i sg H Q h)⟩
def isBO : Expr → Bool
  | .BoolOp .. => true
  | _ => false
structure PB (X : Cx) (e : Expr) (t : TT) : Prop where
  pt : PT X e t
  pw : isBO e = true → PW X e t
theorem PB.of {X : Cx} {e : Expr} {t : TT} (h : PT X e t) (n : isBO e = false) : PB X e t := ⟨h, fun z => by rw [n] at z; cases z⟩
theorem PB.ofW {X : Cx} {e : Expr} {t : TT} (h : PW X e t) : PB X e t := ⟨h.pt, fun _ => h⟩
theorem tst_bo {e : Expr} (h : tstOk e = true) : isBO e = false := by
  cases e <;> first | rfl | cases h
mutual
theorem s_E : ∀ (ce : CE) {X : Cx} {sc : Scope} {e : Expr}, Ctx T cl X N sc n → kE T N sc ce e = true → PV X e (LE X.K cl (ev (cn T n) ce))
  | .var i, X, sc, e, c, h => by
    cases e with
    | Name x p =>
      simp only [kE, Bool.and_eq_true, decide_eq_true_eq] at h
      exact .of (r_var c h.1.1 h.1.2 h.2) rfl
    | _ => cases h
  | .cst d, X, sc, e, c, h => by
    cases e with
    | Constant k j p => exact .of (r_cst h) rfl
    | _ => cases h
  | .glb i, X, sc, e, c, h => by
    cases e with
    | Name x p =>
      simp only [kE, Bool.and_eq_true] at h
      obtain ⟨⟨h1, h2⟩, h3⟩ := h
      split at h1
      · rename_i q e1
        have h1 := of_decide_eq_true h1
        subst h1
        exact .of (r_glb c e1 h2 h3) rfl
      · cases h1
    | _ => cases h
  | .bin op a b, X, sc, e, c, h => by
    cases e with
    | BinOp l o r p =>
      simp only [kE, Bool.and_eq_true, decide_eq_true_eq] at h
      obtain ⟨⟨rfl, h1⟩, h2⟩ := h
      exact .of (r_bin (s_E a c h1).pe (s_E b c h2).pe) rfl
    | _ => cases h
  | .neg a, X, sc, e, c, h => by
    cases e with
    | UnaryOp op x p =>
      cases op with
      | USub => exact .of (r_neg (s_E a c h).pe) rfl
      | _ => cases h
    | _ => cases h
  | .cmp op a b, X, sc, e, c, h => by
    cases e with
    | Compare l os rs p =>
      match os, rs, h with
      | [o], [r], h =>
        simp only [kE, Bool.and_eq_true, decide_eq_true_eq, Bool.not_eq_true'] at h
        obtain ⟨⟨⟨rfl, h0⟩, h1⟩, h2⟩ := h
        exact .of (r_cmp c h0 (s_E a c h1).pe (s_E b c h2).pe) rfl
    | _ => cases h
  | .andv a b, X, sc, e, c, h => by
    cases e with
    | BoolOp op es p =>
      cases op with
      | And =>
        match es, h with
        | [x, y], h =>
          simp only [kE, Bool.and_eq_true] at h
          exact .of (r_and (s_E a c h.1).pe (pe_one (s_E b c h.2).pe)) rfl
        | x :: y :: z :: r, h =>
          simp only [kE, Bool.and_eq_true] at h
          exact .of (r_and (s_E a c h.1).pe (s_E b c h.2).pe) rfl
      | _ => cases h
    | _ => cases h
  | .orv a b, X, sc, e, c, h => by
    cases e with
    | BoolOp op es p =>
      cases op with
      | Or =>
        match es, h with
        | [x, y], h =>
          simp only [kE, Bool.and_eq_true] at h
          exact .of (r_or (s_E a c h.1).pe (pe_one (s_E b c h.2).pe)) rfl
        | x :: y :: z :: r, h =>
          simp only [kE, Bool.and_eq_true] at h
          exact .of (r_or (s_E a c h.1).pe (s_E b c h.2).pe) rfl
      | _ => cases h
    | _ => cases h
  | .notv a, X, sc, e, c, h => by
    cases e with
    | UnaryOp op x p =>
      cases op with
      | Not => exact .of (r_not (s_E a c h).pe) rfl
      | _ => cases h
    | _ => cases h
  | .ife t a b, X, sc, e, c, h => by
    cases e with
    | IfExp q x y p =>
      simp only [kE, Bool.and_eq_true] at h
      exact .of (r_ife (s_T t c h.1.1).pt (s_E a c h.1.2).pe (s_E b c h.2).pe) rfl
    | _ => cases h
  | .tup es, X, sc, e, c, h => by
    cases e with
    | Tuple xs k p => exact .of (r_tup (s_A es c h)) rfl
    | _ => cases h
  | .pl f, X, sc, e, c, h => PV.imp (s_F f c h) fun sg H Q i => LE.ofF i
  | .bx f, X, sc, e, c, h => PV.imp (s_F f c h) fun sg H Q i => LE.ofFB i
  | .idx a i, X, sc, e, c, h => by
    cases e with
    | Subscript x y p =>
      simp only [kE, Bool.and_eq_true] at h
      exact .of (r_idx c h.1.1 (s_E a c h.1.2).pe (s_E i c h.2).pe) rfl
    | _ => cases h
  | .slt a lo hi, X, sc, e, c, h => by
    cases e with
    | Subscript x y p =>
      match y, h with
      | .Slice l u none q, h =>
        simp only [kE, Bool.and_eq_true] at h
        exact .of (r_slt (s_E a c h.1.1).pe (s_O lo c h.1.2) (s_O hi c h.2)) rfl
    | _ => cases h
  | .call f es, X, sc, e, c, h => by
    match es, e, h with
    | .cons ce ca, .Call (.Name x p1) (y :: ys) [] p, h =>
      simp only [kE, Bool.and_eq_true] at h
      obtain ⟨⟨⟨h1, h2⟩, h3⟩, h4⟩ := h
      split at h1
      · rename_i d e1
        rw [Bool.and_eq_true, Bool.not_eq_true'] at h1
        obtain ⟨h1, hm⟩ := h1
        have h1 := of_decide_eq_true h1
        subst h1
        exact .of (r_call c e1 hm h2 h3 h4 (s_A (.cons ce ca) c h4)) rfl
      · cases h1
  | .blt b es, X, sc, e, c, h => by
    match es, e, h with
    | .cons ce ca, .Call (.Name x p1) (y :: ys) [] p, h =>
      rw [kE, Bool.and_eq_true] at h
      exact .of (r_blt c h.1 h.2 (s_A (.cons ce ca) c h.2)) rfl
  | .isi a t, X, sc, e, c, h => by
    match e, h with
    | .Call (.Name x p1) [y, .Name z p2] [] p, h =>
      simp only [kE, Bool.and_eq_true] at h
      obtain ⟨⟨⟨h1, h2⟩, h3⟩, h4⟩ := h
      have ez := (bltC_ok c h4).1
      subst ez
      exact .of (r_isi c h1 h4 h2 (s_E a c h3).pe) rfl
  | .mth m a es, X, sc, e, c, h => by
    match es, e, h with
    | .cons ce .nil, .Call (.Attribute x z ap) [y] [] cp, h =>
      simp only [kE, Bool.and_eq_true, decide_eq_true_eq] at h
      obtain ⟨⟨⟨⟨⟨h1, h2⟩, h3⟩, h4⟩, h5⟩, h6⟩ := h
      refine .of (r_mth (es := []) c h1 h2 h3 h4 (s_E a c h5).pe (s_A (.cons ce .nil) c ?_)) rfl
      simp only [kA, h4, h6, Bool.and_self]
  | .fld a f, X, sc, e, c, h => by
    cases e with
    | Attribute x z ap =>
      simp only [kE, Bool.and_eq_true, decide_eq_true_eq] at h
      obtain ⟨⟨rfl, h1⟩, h2⟩ := h
      exact .of (r_fld c h1 (s_E a c h2).pe) rfl
    | _ => cases h
  | .new C, X, sc, e, c, h => by
    match e, h with
    | .Call (.Name x p1) [] [] p, h =>
      simp only [kE, Bool.and_eq_true] at h
      obtain ⟨⟨h1, h2⟩, h3⟩ := h
      split at h1
      · rename_i d e1
        have h1 := of_decide_eq_true h1
        subst h1
        exact .of (r_new c e1 h2 h3) rfl
      · cases h1
  | .mcl C m f a es, X, sc, e, c, h => by
    match es, e, h with
    | .cons ce ca, .Call (.Attribute x z ap) (y :: ys) [] cp, h =>
      rw [kE] at h
      simp only [Bool.and_eq_true, decide_eq_true_eq] at h
      obtain ⟨⟨⟨⟨⟨⟨rfl, h1⟩, h2⟩, h3⟩, h4⟩, h5⟩, h6⟩ := h
      split at h4
      · rename_i d e1
        exact .of (r_mcl c e1 (of_decide_eq_true h4) h3 h1 h2 (s_E a c h5).pe h6 (s_A (.cons ce ca) c h6)) rfl
      · cases h4
  | .dnK, X, sc, e, c, h => by
    match e, h with
    | .Dict [] [] p, h => exact .of r_dnK rfl
  | .dnT, X, sc, e, c, h => by
    match e, h with
    | .Dict [] [] p, h => exact .of r_dnT rfl
  | .dlt kvs, X, sc, e, c, h => by
    match e, h with
    | .Dict (k :: ks) vs p, h =>
      rw [kE, Bool.and_eq_true, decide_eq_true_eq] at h
      exact .of (r_dlt h.1 h.2) rfl
theorem s_A : ∀ (ca : CA) {X : Cx} {sc : Scope} {es : List Expr}, Ctx T cl X N sc n → kA T N sc ca es = true → PA X es (LA X.K cl (evA (cn T n) ca))
  | .nil, X, sc, es, c, h => by
    cases es with
    | nil => exact r_nil
    | cons _ _ => cases h
  | .cons e ca, X, sc, es, c, h => by
    cases es with
    | nil => cases h
    | cons x xs =>
      simp only [kA, Bool.and_eq_true] at h
      exact r_cons h.1.1 (s_E e c h.1.2).pe (s_A ca c h.2)
theorem s_O : ∀ (co : CO) {X : Cx} {sc : Scope} {o : Option Expr}, Ctx T cl X N sc n → kO T N sc co o = true → PO X o (LO X.K cl (evO (cn T n) co))
  | .no, X, sc, o, c, h => by
    cases o with
    | none => exact r_no
    | some _ => cases h
  | .yes e, X, sc, o, c, h => by
    cases o with
    | none => cases h
    | some x => exact r_yes (s_E e c h).pe
theorem s_T : ∀ (ct : CT) {X : Cx} {sc : Scope} {e : Expr}, Ctx T cl X N sc n → kT T N sc ct e = true → PB X e (LT X.K cl (evT (cn T n) ct))
  | .tru a, X, sc, e, c, h => by
    rw [kT, Bool.and_eq_true] at h
    exact .of (r_tru h.1 (s_E a c h.2).pe) (tst_bo h.1)
  | .cmp op a b, X, sc, e, c, h => by
    cases e with
    | Compare l os rs p =>
      match os, rs, h with
      | [o], [r], h =>
        simp only [kT, Bool.and_eq_true, decide_eq_true_eq, Bool.not_eq_true'] at h
        obtain ⟨⟨⟨rfl, h0⟩, h1⟩, h2⟩ := h
        exact .of (r_tcmp c h0 (s_E a c h1).pe (s_E b c h2).pe) rfl
    | _ => cases h
  | .and a b, X, sc, e, c, h => by
    cases e with
    | BoolOp op es p =>
      cases op with
      | And =>
        match es, h with
        | [x, y], h =>
          simp only [kT, Bool.and_eq_true] at h
          exact .ofW (r_tand (s_T a c h.1).pt (pw_and1 (s_T b c h.2).pt))
        | x :: y :: z :: r, h =>
          simp only [kT, Bool.and_eq_true] at h
          exact .ofW (r_tand (s_T a c h.1).pt ((s_T b c h.2).pw rfl))
      | _ => cases h
    | _ => cases h
  | .or a b, X, sc, e, c, h => by
    cases e with
    | BoolOp op es p =>
      cases op with
      | Or =>
        match es, h with
        | [x, y], h =>
          simp only [kT, Bool.and_eq_true] at h
          exact .ofW (r_tor (s_T a c h.1).pt (pw_or1 (s_T b c h.2).pt))
        | x :: y :: z :: r, h =>
          simp only [kT, Bool.and_eq_true] at h
          exact .ofW (r_tor (s_T a c h.1).pt ((s_T b c h.2).pw rfl))
      | _ => cases h
    | _ => cases h
  | .not a, X, sc, e, c, h => by
    cases e with
    | UnaryOp op x p =>
      cases op with
      | Not => exact .of (r_tnot (s_T a c h).pt) rfl
      | _ => cases h
    | _ => cases h
theorem s_C : ∀ (cc : CC) {X : Cx} {sc : Scope} {es : List Expr}, Ctx T cl X N sc n → kC T N sc cc es = true → PTs X es (LT X.K cl (evC (cn T n) cc))
  | .no, X, sc, es, c, h => by
    cases es with
    | nil => exact r_tsn
    | cons _ _ => cases h
  | .yes t, X, sc, es, c, h => by
    match es, h with
    | [x], h => exact pts_one (s_T t c h).pt
theorem s_I : ∀ (ci : CI) {X : Cx} {sc : Scope} {tg e : Expr}, Ctx T cl X N sc n → kI T N sc tg ci e = true → PI X tg e (LI X.K cl (evI (cn T n) ci))
  | .seq a, X, sc, tg, e, c, h => by
    rw [kI, Bool.and_eq_true] at h
    exact r_seq (s_E a c h.2).pe
  | .rng1 a, X, sc, tg, e, c, h => by
    match e, h with
    | .Call (.Name x p1) [y] [] p, h =>
      simp only [kI, Bool.and_eq_true] at h
      exact r_rng1 c h.1.1 h.1.2 (s_E a c h.2).pe
  | .rng2 a b, X, sc, tg, e, c, h => by
    match e, h with
    | .Call (.Name x p1) [y, z] [] p, h =>
      simp only [kI, Bool.and_eq_true] at h
      exact r_rng2 c h.1.1.1.1 h.1.1.1.2 h.1.1.2 (s_E a c h.1.2).pe (s_E b c h.2).pe
  | .enum a, X, sc, tg, e, c, h => by
    match e, h with
    | .Call (.Name x p1) [y] [] p, h =>
      simp only [kI, Bool.and_eq_true] at h
      exact r_enum c h.1.1.1 h.1.1.2 h.1.2 (s_E a c h.2).pe
theorem s_F : ∀ (cf : CF) {X : Cx} {sc : Scope} {e : Expr}, Ctx T cl X N sc n → kF T N sc cf e = true → PV X e (LF X.K cl (evF (cn T n) cf))
  | .disp es, X, sc, e, c, h => by
    cases e with
    | List xs p => exact .of (r_disp (s_A es c h)) rfl
    | _ => cases h
  | .comp own tg it cc elt, X, sc, e, c, h => by
    match e, h with
    | .ListComp el [⟨t, i, fs, as⟩] scope p, h =>
      simp only [kF, Bool.and_eq_true, decide_eq_true_eq] at h
      obtain ⟨⟨⟨⟨⟨⟨⟨rfl, h1⟩, h2⟩, h3⟩, h4⟩, h5⟩, h6⟩, h7⟩ := h
      exact r_comp c h1 h2 (s_I it c h3) h5 (fun s H C clo fp => r_tg (c.blk s H scope C clo fp).hN c.nd (c.blk s H scope C clo fp).calm (blk_set s H scope C clo fp) h4)
        (fun s H C clo fp => s_C cc (c.blk s H scope C clo fp) h6) (fun s H C clo fp => (s_E elt (c.blk s H scope C clo fp) h7).pe)
  | .lst a, X, sc, e, c, h => by
    match e, h with
    | .Call (.Name x p1) [y] [] p, h =>
      simp only [kF, Bool.and_eq_true] at h
      exact .of (r_list c h.1.1 h.1.2 (s_E a c h.2).pe) rfl
  | .lrg a, X, sc, e, c, h => by
    match e, h with
    | .Call (.Name x p1) [.Call (.Name z p2) [y] [] p3] [] p, h =>
      simp only [kF, Bool.and_eq_true] at h
      exact .of (r_lrg c h.1.1.1 h.1.1.2 h.1.2 (s_E a c h.2).pe) rfl
  | .srt a, X, sc, e, c, h => by
    match e, h with
    | .Call (.Name x p1) [y] [] p, h =>
      simp only [kF, Bool.and_eq_true] at h
      exact .of (r_srt c h.1.1 h.1.2 (s_E a c h.2).pe) rfl
  | .sll a lo hi, X, sc, e, c, h => by
    match e, h with
    | .Subscript x (.Slice l u none q) p, h =>
      simp only [kF, Bool.and_eq_true] at h
      exact .of (r_sll (s_E a c h.1.1).pe (s_O lo c h.1.2) (s_O hi c h.2)) rfl
  | .slk a lo st, X, sc, e, c, h => by
    match e, h with
    | .Subscript x (.Slice (some (.Constant (.int l) k1 q1)) none (some (.Constant (.int s) k2 q2)) q) p, h =>
      simp only [kF, Bool.and_eq_true, decide_eq_true_eq] at h
      obtain ⟨⟨⟨rfl, rfl⟩, h1⟩, h2⟩ := h
      exact .of (r_slk h1 (s_E a c h2).pe) rfl
  | .cat a b, X, sc, e, c, h => by
    match e, h with
    | .BinOp l .Add r p, h =>
      simp only [kF, Bool.and_eq_true] at h
      exact .of (r_cat (s_E a c h.1).pe (s_E b c h.2).pe) rfl
end
end
end Cr
/-! Core 5b: statements. -/
namespace Cr
open PySem PySem.Spec PyProof.Rows L2
section
variable {T : Tb} {cl : Nat → Option Addr} {N : List Str} {n : Nat}
theorem CtxS.toC {X : Cx} {sc : Scope} (c : CtxS T cl X N sc n) : Ctx T cl X N sc n := c.toCtx
mutual
theorem s_S : ∀ (cs : CS) {X : Cx} {sc : Scope} {s : Stmt}, CtxS T cl X N sc n → kS T N sc cs s = true → PS X s (LS X.K cl (exS (cn T n) cs))
  | .set i e, X, sc, s, c, h => by
    cases s with
    | Assign ts v p =>
      match ts, h with
      | [.Name x px], h =>
        simp only [kS, Bool.and_eq_true, decide_eq_true_eq] at h
        obtain ⟨⟨⟨h0, h1⟩, h2⟩, h3⟩ := h
        exact r_set c h1 h2 h0 (s_E e c.toC h3)
    | _ => cases h
  | .setT is e, X, sc, s, c, h => by
    cases s with
    | Assign ts v p =>
      match ts, h with
      | [.Tuple es k tp], h =>
        simp only [kS, Bool.and_eq_true] at h
        obtain ⟨⟨⟨h0, h1⟩, h2⟩, h3⟩ := h
        exact r_setT c h2 h0 h1 (s_E e c.toC h3).pe
    | _ => cases h
  | .sub o i e, X, sc, s, c, h => by
    cases s with
    | Assign ts v p =>
      match ts, h with
      | [.Subscript x y tp], h =>
        simp only [kS, Bool.and_eq_true] at h
        obtain ⟨⟨⟨⟨h0, h1⟩, h2⟩, h3⟩, h4⟩ := h
        exact r_sub c h0 h1 (s_E o c.toC h2).pe (s_E i c.toC h3).pe (s_E e c.toC h4).pe
    | _ => cases h
  | .fset o f e, X, sc, s, c, h => by
    cases s with
    | Assign ts v p =>
      match ts, h with
      | [.Attribute x z tp], h =>
        simp only [kS, Bool.and_eq_true, decide_eq_true_eq] at h
        obtain ⟨⟨⟨rfl, h0⟩, h1⟩, h2⟩ := h
        exact r_fset c h0 (s_E o c.toC h1).pe (s_E e c.toC h2).pe
    | _ => cases h
  | .aug i op e, X, sc, s, c, h => by
    cases s with
    | AugAssign tg o v p =>
      cases tg with
      | Name x px =>
        simp only [kS, Bool.and_eq_true, decide_eq_true_eq] at h
        obtain ⟨⟨⟨rfl, h1⟩, h2⟩, h3⟩ := h
        exact r_aug c h1 h2 (s_E e c.toC h3).pe
      | _ => cases h
    | _ => cases h
  | .ret e, X, sc, s, c, h => by
    cases s with
    | Return v p =>
      cases v with
      | some v => exact r_ret (s_E e c.toC h).pe
      | none => cases h
    | _ => cases h
  | .retN, X, sc, s, c, h => by
    cases s with
    | Return v p =>
      cases v with
      | some v => cases h
      | none => exact r_retN
    | _ => cases h
  | .exp e, X, sc, s, c, h => by
    cases s with
    | Expr v p =>
      simp only [kS, Bool.and_eq_true] at h
      exact r_exp h.1 (s_E e c.toC h.2).pe
    | _ => cases h
  | .ife t a b, X, sc, s, c, h => by
    cases s with
    | If q x y p =>
      simp only [kS, Bool.and_eq_true] at h
      exact r_if (s_T t c.toC h.1.1).pt (s_B a c h.1.2) (s_B b c h.2)
    | _ => cases h
  | .for_ tg it b, X, sc, s, c, h => by
    cases s with
    | For t i x els p =>
      cases els with
      | nil =>
        simp only [kS, Bool.and_eq_true] at h
        exact r_for c h.1.1.1 (s_I it c.toC h.1.1.2) h.1.2 (s_B b c h.2)
      | cons _ _ => cases h
    | _ => cases h
  | .whl t b, X, sc, s, c, h => by
    cases s with
    | While q x els p =>
      cases els with
      | nil =>
        simp only [kS, Bool.and_eq_true] at h
        exact r_whl c (s_T t c.toC h.1).pt (s_B b c h.2)
      | cons _ _ => cases h
    | _ => cases h
  | .brk, X, sc, s, c, h => by
    cases s with
    | Break p => exact r_brk
    | _ => cases h
  | .pss, X, sc, s, c, h => by
    cases s with
    | Pass p => exact r_pss
    | _ => cases h
  | .nev, X, sc, s, c, h => r_nev
theorem s_B : ∀ (cb : CB) {X : Cx} {sc : Scope} {ss : List Stmt}, CtxS T cl X N sc n → kB T N sc cb ss = true → PSs X ss (LS X.K cl (exB (cn T n) cb))
  | .nil, X, sc, ss, c, h => by
    cases ss with
    | nil => exact r_bnil
    | cons _ _ => cases h
  | .cons s b, X, sc, ss, c, h => by
    cases ss with
    | nil => cases h
    | cons x xs =>
      simp only [kB, Bool.and_eq_true] at h
      exact r_bcons (s_S s c h.1) (s_B b c h.2)
end
end
end Cr
/-! Core 6: a checked table of defs; the end of a law. -/
namespace Cr
open PySem PySem.Spec PyProof.Rows L2
section
variable {K : PySem.W.Frag} {cl : Nat → Option Addr} {H H' : Hp} {al al' : Al} {h h' : Hs}
mutual
theorem RV.clsd : ∀ {v : V} {d : D}, RV K H al v d → Cr.clsd al.r.length d = true
  | _, _, .non => rfl
  | _, _, .bl b => rfl
  | _, _, .int i => rfl
  | _, _, .str x => rfl
  | _, _, .tup _ r => RVs.clsd r
  | _, _, .lst _ _ r => RVs.clsd r
  | _, _, .scr _ => rfl
  | _, _, .ref h => decide_eq_true (List.getElem?_eq_some_iff.mp h).1
theorem RVs.clsd : ∀ {vs : List V} {ds : List D}, RVs K H al vs ds → Cr.clsds al.r.length ds = true
  | _, _, .nil => rfl
  | _, _, .cons r t => by
    show (Cr.clsd _ _ && Cr.clsds _ _) = true
    rw [RV.clsd r, RVs.clsd t]
    rfl
end
theorem RKs.clsd {κ : Type} : ∀ {vs : List (κ × V)} {ds : List (κ × D)}, RKs K H al vs ds → Cr.clsds al.r.length (ds.map (·.2)) = true
  | _, _, .nil => rfl
  | _, _, .cons r t => by
    show (Cr.clsd _ _ && Cr.clsds _ _) = true
    rw [RV.clsd r, RKs.clsd t]
    rfl
theorem RO.clsd {a : Addr} {o : O} (r : RO K cl H al a o) : clsdO al.r.length o = true := by
  cases o with
  | lst _ => obtain ⟨_, _, r⟩ := r; exact r.clsd
  | dK _ => obtain ⟨_, _, r⟩ := r; exact r.clsd
  | dT _ => obtain ⟨_, _, r⟩ := r; exact r.clsd
  | ins _ _ => obtain ⟨_, _, _, _, _, r⟩ := r; exact r.clsd
/-- al is what was before al' -/
structure Bef (al al' : Al) : Prop where
  r : ∃ be, al'.r = al.r ++ be
  x : ∀ a, a ∈ al.x → a ∈ al'.x
theorem Bef.nin (b : Bef al al') {a : Addr} (n : Nin a al') : Nin a al := by
  obtain ⟨be, e⟩ := b.r
  exact ⟨fun z => n.1 (by rw [e]; exact List.mem_append_left _ z), fun z => n.2 (b.x a z)⟩
theorem Bef.ix (b : Bef al al') {n : Nat} {a : Addr} (h : al'.r[n]? = some a) (hn : n < al.r.length) : al.r[n]? = some a := by
  obtain ⟨be, e⟩ := b.r
  rw [e, List.getElem?_append_left hn] at h
  exact h
mutual
theorem RV.back (b : Bef al al') : ∀ {v : V} {d : D}, RV K H al' v d → Cr.clsd al.r.length d = true → RV K H al v d
  | _, _, .non, _ => .non
  | _, _, .bl b, _ => .bl b
  | _, _, .int i, _ => .int i
  | _, _, .str x, _ => .str x
  | _, _, .tup h r, c => .tup (h.elim (fun z => .inl ⟨z.1, b.nin z.2⟩) .inr) (RVs.back b r c)
  | _, _, .lst h n r, c => .lst h (b.nin n) (RVs.back b r c)
  | _, _, .scr h, _ => .scr (h.elim (fun z => .inl ⟨z.1, b.nin z.2⟩) .inr)
  | _, _, .ref h, c => .ref (b.ix h (of_decide_eq_true c))
theorem RVs.back (b : Bef al al') : ∀ {vs : List V} {ds : List D}, RVs K H al' vs ds → Cr.clsds al.r.length ds = true → RVs K H al vs ds
  | _, _, .nil, _ => .nil
  | _, _, .cons r t, c => by
    have c : (Cr.clsd _ _ && Cr.clsds _ _) = true := c
    rw [Bool.and_eq_true] at c
    exact .cons (RV.back b r c.1) (RVs.back b t c.2)
end
theorem RKs.back {κ : Type} (b : Bef al al') : ∀ {vs : List (κ × V)} {ds : List (κ × D)}, RKs K H al' vs ds → Cr.clsds al.r.length (ds.map (·.2)) = true → RKs K H al vs ds
  | _, _, .nil, _ => .nil
  | _, _, .cons r t, c => by
    have c : (Cr.clsd _ _ && Cr.clsds _ _) = true := c
    rw [Bool.and_eq_true] at c
    exact .cons (r.back b c.1) (RKs.back b t c.2)
theorem RO.back (b : Bef al al') {a : Addr} {o : O} (r : RO K cl H al' a o) (c : clsdO al.r.length o = true) : RO K cl H al a o := by
  cases o with
  | lst _ => obtain ⟨vs, h, r⟩ := r; exact ⟨vs, h, r.back b c⟩
  | dK _ => obtain ⟨vs, h, r⟩ := r; exact ⟨vs, h, r.back b c⟩
  | dT _ => obtain ⟨vs, h, r⟩ := r; exact ⟨vs, h, r.back b c⟩
  | ins _ _ => obtain ⟨A, dx, vs, hc, h, r⟩ := r; exact ⟨A, dx, vs, hc, h, r.back b c⟩
mutual
theorem RV.frz (b : Bef al al') {g : Nat → Option D} (hg : ∀ n a e, al'.r[n]? = some a → g n = some e → RV K H al (.ref a) e) : ∀ {v : V} {d e : D}, RV K H al' v d → Cr.frz g d = some e → RV K H al v e
  | _, _, _, .non, h => by cases h; exact .non
  | _, _, _, .bl b, h => by cases h; exact .bl b
  | _, _, _, .int i, h => by cases h; exact .int i
  | _, _, _, .str x, h => by cases h; exact .str x
  | _, _, _, .tup (ds := ds) hq r, h => by
    have h : (Cr.frzs g ds).map D.tup = some _ := h
    obtain ⟨es, h1, h2⟩ := Option.map_eq_some_iff.mp h
    subst h2
    exact .tup (hq.elim (fun z => .inl ⟨z.1, b.nin z.2⟩) .inr) (RVs.frz b hg r h1)
  | _, _, _, .lst (ds := ds) hq n r, h => by
    have h : (Cr.frzs g ds).map D.lst = some _ := h
    obtain ⟨es, h1, h2⟩ := Option.map_eq_some_iff.mp h
    subst h2
    exact .lst hq (b.nin n) (RVs.frz b hg r h1)
  | _, _, _, .scr hq, h => by cases h; exact .scr (hq.elim (fun z => .inl ⟨z.1, b.nin z.2⟩) .inr)
  | _, _, _, .ref hq, h => hg _ _ _ hq h
theorem RVs.frz (b : Bef al al') {g : Nat → Option D} (hg : ∀ n a e, al'.r[n]? = some a → g n = some e → RV K H al (.ref a) e) : ∀ {vs : List V} {ds es : List D}, RVs K H al' vs ds → Cr.frzs g ds = some es → RVs K H al vs es
  | _, _, _, .nil, h => by cases h; exact .nil
  | _, _, _, .cons (d := d) (ds := ds) r t, h => by
    have h : (Cr.frz g d).bind (fun y => (Cr.frzs g ds).map (y :: ·)) = some _ := h
    obtain ⟨y, h1, h2⟩ := Option.bind_eq_some_iff.mp h
    obtain ⟨ys, h3, h4⟩ := Option.map_eq_some_iff.mp h2
    subst h4
    exact .cons (RV.frz b hg r h1) (RVs.frz b hg t h3)
end
theorem frzN_ok (b : Bef al al') (rp : Rp K cl H al' h) : ∀ (k : Nat) {v : V} {d e : D}, RV K H al' v d → frzN h al.r.length k d = some e → RV K H al v e
  | 0, v, d, e, r, q => by
    refine r.frz b (fun n a e h1 h2 => ?_) q
    split at h2
    · rename_i hn
      cases h2
      exact .ref (b.ix h1 hn)
    · cases h2
  | k + 1, v, d, e, r, q => by
    refine r.frz b (fun n a e h1 h2 => ?_) q
    split at h2
    · rename_i hn
      cases h2
      exact .ref (b.ix h1 hn)
    · rename_i hn
      split at h2
      · rename_i xs hx
        obtain ⟨es, h3, h4⟩ := Option.map_eq_some_iff.mp h2
        subst h4
        obtain ⟨vs, h5, h6⟩ := rp.obj n a _ h1 hx
        have hm : a ∈ al'.r := List.mem_of_getElem? h1
        refine .lst h5 ⟨fun z => ?_, fun z => (rp.ex a (b.x a z)).1 hm⟩ ?_
        · obtain ⟨j, hj, e⟩ := List.mem_iff_getElem.mp z
          obtain ⟨be, eb⟩ := b.r
          have h7 : al'.r[j]? = some a := by rw [eb, List.getElem?_append_left hj, List.getElem?_eq_getElem hj, e]
          exact hn (by rw [nd_ix rp.nd h1 h7]; exact hj)
        · -- the items, one level down
          have go : ∀ {vs : List V} {ds es : List D}, RVs K H al' vs ds → Cr.frzs (fun m => frzN h al.r.length k (.ref m)) ds = some es → RVs K H al vs es := by
            intro vs ds es r q
            exact r.frz b (fun m c e' g1 g2 => frzN_ok b rp k (.ref g1) g2) q
          exact go h6 h3
      · cases h2
/-- what a def leaves behind -/
theorem leave_ok {cut : Bool} {H0 : Hp} {h0 : Hs} {d e : D} {he : Hs} {v : V} {Q : VK} (rp0 : Rp K cl H0 al h0) (s : Stp al H0 al' H) (rp : Rp K cl H al' h) (r : RV K H al' v d) (q : leave cut h0 d h = some (e, he)) (f : FinE K cl al H0 he e Q) : Q v H := by
  unfold leave at q
  split at q
  · split at q
    · rename_i hc
      obtain ⟨e', q1, q2⟩ := Option.map_eq_some_iff.mp q
      cases q2
      have b : Bef al al' := ⟨s.pre, s.px1⟩
      have rl : al.r.length = h0.length := rp0.len
      have rl' : al'.r.length = h.length := rp.len
      obtain ⟨be, eb⟩ := s.pre
      have ble : h0.length ≤ h.length := by rw [← rl, ← rl', eb, List.length_append]; omega
      rw [← rl] at q1
      refine f al H v ⟨⟨[], by simp⟩, fun _ z => z, fun _ z => .inl z, s.kp, fun _ z => .inl z⟩ ⟨by rw [List.length_take, rl]; omega, ?_, fun n a o e1 e2 => ?_, fun a m => ?_⟩ (frzN_ok b rp 3 r q1)
      · have := rp.nd
        rw [eb] at this
        exact (List.nodup_append.mp this).1
      · have hn : n < h0.length := by rw [← rl]; exact (List.getElem?_eq_some_iff.mp e1).1
        rw [List.getElem?_take_of_lt hn] at e2
        refine (rp.obj n a o (s.get e1) e2).back b ?_
        rw [rl]
        rcases hc n o hn e2 with z | z
        · have := (rp0.obj n a o e1 z).clsd
          rw [rl] at this
          exact this
        · exact z
      · have z := rp.ex a (s.px1 a m)
        exact ⟨fun y => z.1 (s.sub y), z.2⟩
    · cases q
  · cases q
    exact f al' H v s rp r
theorem RS.start {vs : List V} {ds : List D} {N : List Str} (r : RVs K H al vs ds) : RS K H al (L2.start N vs) (startD N.length ds) := by
  have el := r.length
  unfold L2.start startD
  refine ⟨by simp [el], fun i d e => ?_⟩
  by_cases hi : i < ds.length
  · rw [List.getElem?_append_left (by simpa using hi), List.getElem?_map] at e
    obtain ⟨x, e1, e2⟩ := Option.map_eq_some_iff.mp e
    cases e2
    obtain ⟨v, e3, e4⟩ := r.get e1
    refine ⟨v, ?_, e4⟩
    rw [List.getElem?_append_left (by rw [List.length_map, el]; exact hi), List.getElem?_map, e3]
    rfl
  · rw [List.getElem?_append_right (by simpa using hi), List.getElem?_replicate] at e
    split at e <;> cases e
end

/-! ### the table -/
/-- names of a def -/
def scB (N P : List Str) (sc : Scope) : Bool :=
  decide (sc.kind = .function) && !sc.isCoroutine && !sc.isGenerator && decide N.Nodup && decide (N.take P.length = P) && P.all (fun x => decide (sc.names.lookup x = some .local) || decide (sc.names.lookup x = some .cell)) && sc.names.all (fun y => !decide (y.2 = .free))
theorem scB_ok {N P : List Str} {sc : Scope} (h : scB N P sc = true) : FnScope N P sc := by
  unfold scB at h
  simp only [Bool.and_eq_true, Bool.not_eq_true', decide_eq_true_eq, List.all_eq_true, Bool.or_eq_true, decide_eq_false_iff_not] at h
  obtain ⟨⟨⟨⟨⟨⟨h1, h2⟩, h3⟩, h4⟩, h5⟩, h6⟩, h7⟩ := h
  exact ⟨h1, h2, h3, h4, h5, h6, h7⟩
/-- a def of the text is the def of the table -/
def dfB (T : Tb) (d : Df) (st : Stmt) : Bool := scB d.N d.ps (defScope st) && kB T d.N (defScope st) d.body (defBody st)
/-- a def as it stands behind the top -/
structure DefIn (T : Tb) (K : PySem.W.Frag) (mg : Str → Option Value) (d : Df) : Prop where
  ex : ∃ (st : Stmt) (x qual : Str) (a : Addr) (fd : FuncData), (d.meth = false → mg d.nm = some (.ref a)) ∧ Fun K x qual st a fd ∧ Binds K fd d.ps [] ∧ dfB T d st = true
/-- a class -/
structure ClsIn (T : Tb) (K : PySem.W.Frag) (mg : Str → Option Value) (A : Addr) (c : Cd) : Prop where
  cls : Cls K A
  fs : ∀ f ∈ c.fs, NoAttr K A f
  ms : ∀ p ∈ c.ms, ∃ (d : Df) (st : Stmt) (x qual : Str) (a : Addr) (fd : FuncData), T.P[p.2]? = some d ∧ Meth K A p.1 a ∧ Fun K x qual st a fd ∧ Binds K fd d.ps [] ∧ dfB T d st = true
  ini : ∃ (d : Df) (st : Stmt) (x qual : Str) (a : Addr) (fd : FuncData), T.P[c.ini]? = some d ∧ mg c.nm = some (.ref A) ∧ Mk K A a ∧ Fun K x qual st a fd ∧ Binds K fd d.ps [] ∧ dfB T d st = true
/-- all of them, and the other names -/
structure TabIn (T : Tb) (K : PySem.W.Frag) (mg : Str → Option Value) (cl : Nat → Option Addr) : Prop where
  defs : ∀ d ∈ T.P, d.meth = false → DefIn T K mg d
  glb : ∀ p ∈ T.G, ∃ v u, mg p.1 = some u ∧ RelV v u ∧ ∀ H al, RV K H al v p.2
  blt : ∀ x ∈ T.B, mg x = none
  gcd : T.gcd = true → mg "gcd" = some (.builtin "math.gcd")
  cls : ∀ (C : Nat) (c : Cd), T.Cs[C]? = some c → ∃ A, cl C = some A ∧ ClsIn T K mg A c
theorem fn_all {T : Tb} {P : Program} {w : World} {K : PySem.W.Frag} {mg : Str → Option Value} {base : Heap} {cl : Nat → Option Addr} (t : TabIn T K mg cl) : ∀ (n : Nat) (f : Nat) (d : Df), T.P[f]? = some d → ∀ (st : Stmt) (x qual : Str) (a : Addr) (fd : FuncData), Fun K x qual st a fd → Binds K fd d.ps [] → dfB T d st = true →
    FnOk P w K mg base CX0 n a fd d.ps (spOf K cl d.ps.length (call T n f)) := by
  intro n
  induction n using Nat.strongRecOn with
  | _ n ih =>
    intro f d e st x qual a fd F hb hd
    cases n with
    | zero =>
      refine ⟨fun vs H Q E h => h.1, fun A outer s H args us vs Q E hr e0 hbt hv hs => ?_⟩
      obtain ⟨_, al, h, ds, d', h', rp, rv, e1, _⟩ := hs
      simp [call] at e1
    | succ n =>
      unfold dfB at hd
      rw [Bool.and_eq_true] at hd
      refine F.ok (scB_ok hd.1) (fun vs H Q E h => h.1) fun cdv A outer s H vs Q E hr hs => ?_
      obtain ⟨hl, al, h, ds, d', h', rp, rv, e1, f1⟩ := hs
      have c : CtxS T cl (cxOf CX0 P w K mg base d.N qual (defScope st) a cdv A outer s H E).nox d.N (defScope st) n :=
        { hN := rfl
          nd := (scB_ok hd.1).nd
          scp := rfl
          calm := rfl
          room := hr
          fns := fun f2 d2 e2 hm2 => by
            obtain ⟨st2, x2, q2, a2, fd2, m2, F2, b2, k2⟩ := (t.defs d2 (List.mem_of_getElem? e2) hm2).ex
            exact ⟨a2, fd2, m2 hm2, F2.kp, b2, ih n (Nat.lt_succ_self n) f2 d2 e2 st2 x2 q2 a2 fd2 F2 b2 k2⟩
          glb := fun i p e2 => t.glb p (List.mem_of_getElem? e2)
          blt := t.blt
          gcd := t.gcd
          cls := fun C c e2 => by
            obtain ⟨A2, h1, h2⟩ := t.cls C c e2
            obtain ⟨d3, st3, x3, q3, a3, fd3, i1, i2, i3, i4, i5, i6⟩ := h2.ini
            refine ⟨A2, h1, h2.cls, h2.fs, fun p hp => ?_, a3, fd3, d3, i1, i2, i3, i5, ih (n - 1) (by omega) c.ini d3 i1 st3 x3 q3 a3 fd3 i4 i5 i6⟩
            obtain ⟨d4, st4, x4, q4, a4, fd4, j1, j2, j3, j4, j5⟩ := h2.ms p hp
            exact ⟨a4, fd4, d4, j1, j2, j4, ih n (Nat.lt_succ_self n) p.2 d4 j1 st4 x4 q4 a4 fd4 j3 j4 j5⟩
          fn := fun x hx => ⟨locB_ok hx, .inl rfl⟩
          xe := rfl }
      refine ⟨_, s_B d.body c hd.2, ?_⟩
      have st0 : Stt K cl (L2.start d.N vs) H al (startD d.N.length ds) h := ⟨RS.start rv, rp⟩
      simp only [call, e] at e1
      split at e1
      rotate_left
      · cases e1
      obtain ⟨⟨r, se1, h1⟩, e2, e3⟩ := Option.bind_eq_some_iff.mp e1
      refine ⟨al, _, h, _, st0, e2, ?_⟩
      cases r with
      | nx => exact fun al' H' sg' s' st' => leave_ok rp s' st'.rp .non e3 f1
      | bk => cases e3
      | ct => cases e3
      | rt v => exact fun al' H' u s' rp' r' => leave_ok rp s' rp' r' e3 f1
/-- the law's own promise -/
theorem law_sp {T : Tb} {K : PySem.W.Frag} {cl : Nat → Option Addr} {k f : Nat} {M : Nat} (hlaw : ∀ ns : List Int, ns.length ≤ M → ∃ h', call T k f [.scr ns] [] = some (.bl true, h')) {H : Hp} {a : Addr} {ns : List Int} (hn : ns.length ≤ M) (hq : SqL K H a (ns.map V.int)) :
    spOf K cl 1 (call T k f) [.ref a] H (fun v _ => v = .bl true) fun _ _ _ => False := by
  obtain ⟨h', e⟩ := hlaw ns hn
  have nin : Nin a ⟨[], []⟩ := ⟨List.not_mem_nil, List.not_mem_nil⟩
  refine ⟨rfl, ⟨[], []⟩, [], [.scr ns], .bl true, h', ⟨rfl, List.nodup_nil, fun n a o e1 _ => (by simp at e1), fun a m => absurd m List.not_mem_nil⟩, .cons (.scr (hq.elim (fun z => .inl ⟨z, nin⟩) .inr)) .nil, e, fun al' H' v s rp r => ?_⟩
  cases r
  rfl
/-- whatever the classes are -/
def spAll (K : PySem.W.Frag) (np : Nat) (m : List D → Hs → Option (D × Hs)) : Sp := fun vs H Q E => ∀ cl : Nat → Option Addr, spOf K cl np m vs H Q E
theorem all_ok {P : Program} {w : World} {K : PySem.W.Frag} {mg : Str → Option Value} {base : Heap} {CX : CXT} {k : Nat} {f : Addr} {fd : FuncData} {ps : List Str} {cl : Nat → Option Addr} {np : Nat} {m : List D → Hs → Option (D × Hs)}
    (F : FnOk P w K mg base CX k f fd ps (spOf K cl np m)) : FnOk P w K mg base CX k f fd ps (spAll K np m) := F.imp fun vs H Q E h => h cl
/-- one class -/
def clOf (A : Addr) : Nat → Option Addr
  | 0 => some A
  | _ => none
end Cr
/-! Core 7: how the evaluator is run by hand. -/
namespace Cr
open PySem PySem.Spec PyProof.Rows L2
mutual
/-- no changed thing -/
def pureD : D → Bool
  | .ref _ => false
  | .tup xs => pureDs xs
  | .lst xs => pureDs xs
  | _ => true
def pureDs : List D → Bool
  | [] => true
  | x :: xs => pureD x && pureDs xs
end
theorem pureDs_all {xs : List D} (h : ∀ x ∈ xs, pureD x = true) : pureDs xs = true := by
  induction xs with
  | nil => rfl
  | cons x xs ih =>
    show (pureD x && pureDs xs) = true
    rw [h x List.mem_cons_self, ih fun y hy => h y (List.mem_cons_of_mem _ hy)]
    rfl
theorem pureDs_mem {xs : List D} (h : pureDs xs = true) : ∀ x ∈ xs, pureD x = true := by
  induction xs with
  | nil => intro x hx; cases hx
  | cons y xs ih =>
    have h : (pureD y && pureDs xs) = true := h
    rw [Bool.and_eq_true] at h
    intro x hx
    rcases List.mem_cons.mp hx with e | hx
    · rw [e]; exact h.1
    · exact ih h.2 x hx
theorem pureDs_ints (ns : List Int) : pureDs (ns.map D.int) = true := pureDs_all fun x hx => by
  obtain ⟨i, _, rfl⟩ := List.mem_map.mp hx
  rfl
mutual
theorem frz_pure {g : Nat → Option D} : ∀ {d : D}, pureD d = true → frz g d = some d
  | .non, _ => rfl
  | .bl _, _ => rfl
  | .int _, _ => rfl
  | .str _, _ => rfl
  | .scr _, _ => rfl
  | .tup xs, h => by
    show (frzs g xs).map D.tup = _
    rw [frzs_pure h]
    rfl
  | .lst xs, h => by
    show (frzs g xs).map D.lst = _
    rw [frzs_pure h]
    rfl
  | .ref _, h => by cases h
theorem frzs_pure {g : Nat → Option D} : ∀ {ds : List D}, pureDs ds = true → frzs g ds = some ds
  | [], _ => rfl
  | x :: xs, h => by
    have h : (pureD x && pureDs xs) = true := h
    rw [Bool.and_eq_true] at h
    show (frz g x).bind (fun y => (frzs g xs).map (y :: ·)) = _
    rw [frz_pure h.1, frzs_pure h.2]
    rfl
end
mutual
theorem clsd_pure {n : Nat} : ∀ {d : D}, pureD d = true → clsd n d = true
  | .non, _ => rfl
  | .bl _, _ => rfl
  | .int _, _ => rfl
  | .str _, _ => rfl
  | .scr _, _ => rfl
  | .tup xs, h => clsds_pure h
  | .lst xs, h => clsds_pure h
  | .ref _, h => by cases h
theorem clsds_pure {n : Nat} : ∀ {ds : List D}, pureDs ds = true → clsds n ds = true
  | [], _ => rfl
  | x :: xs, h => by
    have h : (pureD x && pureDs xs) = true := h
    rw [Bool.and_eq_true] at h
    show (clsd n x && clsds n xs) = true
    rw [clsd_pure h.1, clsds_pure h.2]
    rfl
end
theorem frzN_pure {h : Hs} {n k : Nat} {d : D} (p : pureD d = true) : frzN h n k d = some d := by
  cases k with
  | zero => exact frz_pure p
  | succ k => exact frz_pure p
theorem frzN_ref {h : Hs} {n0 n k : Nat} {xs : List D} (hn : n0 ≤ n) (e : h[n]? = some (.lst xs)) (p : pureDs xs = true) : frzN h n0 (k + 1) (.ref n) = some (.lst xs) := by
  show (if n < n0 then some (D.ref n) else match h[n]? with
    | some (.lst xs) => (frzs (fun m => frzN h n0 k (.ref m)) xs).map D.lst
    | _ => none) = _
  rw [if_neg (by omega), e]
  show (frzs _ xs).map D.lst = _
  rw [frzs_pure p]
  rfl
theorem leave_gen {h h' : Hs} {d e : D} (hc : ∀ n o, n < h.length → h'[n]? = some o → h[n]? = some o ∨ clsdO h.length o = true) (hf : frzN h' h.length 3 d = some e) : leave true h d h' = some (e, h'.take h.length) := by
  unfold leave
  rw [if_pos rfl, if_pos hc, hf]
  rfl
/-- only new things were made -/
theorem leave_ext {h ex : Hs} {d e : D} (hf : frzN (h ++ ex) h.length 3 d = some e) : leave true h d (h ++ ex) = some (e, h) := by
  rw [leave_gen (fun n o hn e => .inl (by rw [List.getElem?_append_left hn] at e; exact e)) hf, List.take_left]
theorem leave_pure {h ex : Hs} {d : D} (p : pureD d = true) : leave true h d (h ++ ex) = some (d, h) := leave_ext (frzN_pure p)
theorem leave_same {h : Hs} {d : D} (p : pureD d = true) : leave true h d h = some (d, h) := by
  have := leave_pure (h := h) (ex := []) p
  rwa [List.append_nil] at this
/-- one old list is changed, to one without changed things -/
theorem leave_set {h : Hs} {k : Nat} {d : D} {xs : List D} (p : pureD d = true) (px : pureDs xs = true) : leave true h d (h.set k (.lst xs)) = some (d, h.set k (.lst xs)) := by
  rw [leave_gen (e := d) (fun n o hn e => ?_) (frzN_pure p), List.take_of_length_le (by rw [List.length_set]; omega)]
  by_cases hk : k = n
  · subst hk
    rw [List.getElem?_set_self hn] at e
    cases e
    exact .inr (clsds_pure px)
  · rw [List.getElem?_set_ne hk] at e
    exact .inl e
theorem leave_no {h h' : Hs} {d : D} : leave false h d h' = some (d, h') := by
  unfold leave
  rw [if_neg (by decide)]

/-! ### loops -/
theorem forD_gen {st : Hs → Prop} {tg : Tg} {b : MS} (R : Fl × S × Hs → Prop) : ∀ {xs : List D} (I : Nat → S → Hs → Prop) {se : S} {h : Hs} (h0 : I 0 se h) (hst : ∀ i se h, I i se h → st h)
    (step : ∀ i x se h, xs[i]? = some x → I i se h → ∃ s1 r, putT tg x se = some s1 ∧ b s1 h = some r ∧ (match r.1 with
      | .nx => I (i + 1) r.2.1 r.2.2 | .ct => I (i + 1) r.2.1 r.2.2 | .bk => R (.nx, r.2) | .rt d => R (.rt d, r.2)))
    (fin : ∀ se h, I xs.length se h → R (.nx, se, h)), ∃ r, forD st tg b xs se h = some r ∧ R r
  | [], I, se, h, h0, hst, step, fin => by
    refine ⟨_, ?_, fin se h h0⟩
    unfold forD
    rw [if_pos (hst 0 se h h0)]
  | x :: xs, I, se, h, h0, hst, step, fin => by
    obtain ⟨s1, ⟨r1, s2, h2⟩, e1, e2, e3⟩ := step 0 x se h rfl h0
    have rec_ : I 1 s2 h2 → ∃ r, forD st tg b xs s2 h2 = some r ∧ R r := fun i1 =>
      forD_gen R (fun i => I (i + 1)) i1 (fun i => hst (i + 1)) (fun i x se h e q => step (i + 1) x se h (by simpa using e) q) fin
    unfold forD
    rw [if_pos (hst 0 se h h0), e1]
    simp only [Option.bind_some, e2]
    cases r1 with
    | nx => exact rec_ e3
    | ct => exact rec_ e3
    | bk => exact ⟨_, rfl, e3⟩
    | rt d => exact ⟨_, rfl, e3⟩
/-- no break, no return -/
theorem forD_run {st : Hs → Prop} {tg : Tg} {b : MS} {xs : List D} (I : Nat → S → Hs → Prop) {se : S} {h : Hs} (h0 : I 0 se h) (hst : ∀ i se h, I i se h → st h)
    (step : ∀ i x se h, xs[i]? = some x → I i se h → ∃ s1 s2 h2, putT tg x se = some s1 ∧ b s1 h = some (.nx, s2, h2) ∧ I (i + 1) s2 h2) : ∃ se' h', forD st tg b xs se h = some (.nx, se', h') ∧ I xs.length se' h' := by
  obtain ⟨⟨r, se', h'⟩, e1, e2⟩ := forD_gen (st := st) (tg := tg) (b := b) (xs := xs) (fun r => r.1 = .nx ∧ I xs.length r.2.1 r.2.2) I h0 hst (fun i x se h e q => by
    obtain ⟨s1, s2, h2, e1, e2, e3⟩ := step i x se h e q
    exact ⟨s1, _, e1, e2, e3⟩) (fun se h q => ⟨rfl, q⟩)
  obtain ⟨e3, e4⟩ := e2
  have e3 : r = .nx := e3
  subst e3
  exact ⟨se', h', e1, e4⟩
theorem lcD_run {st : Hs → Prop} {tg : Tg} {se : S} {tc : S → Hs → Option (Bool × Hs)} {te : ME} : ∀ {xs : List D} (I : Nat → List D → Hs → Prop) {h : Hs} (h0 : I 0 [] h) (hst : ∀ i acc h, I i acc h → st h)
    (step : ∀ i x acc h, xs[i]? = some x → I i acc h → ∃ s1 k h1, putT tg x se = some s1 ∧ tc s1 h = some (k, h1) ∧ (k = false → I (i + 1) acc h1) ∧ (k = true → ∃ y h2, te s1 h1 = some (y, h2) ∧ I (i + 1) (acc ++ [y]) h2)),
    ∃ ds h', lcD st tg se tc te xs h = some (ds, h') ∧ I xs.length ds h'
  | [], I, h, h0, hst, step => by
    refine ⟨[], h, ?_, h0⟩
    unfold lcD
    rw [if_pos (hst 0 _ h h0)]
  | x :: xs, I, h, h0, hst, step => by
    obtain ⟨s1, k, h1, e1, e2, e3, e4⟩ := step 0 x [] h rfl h0
    unfold lcD
    rw [if_pos (hst 0 _ h h0), e1]
    simp only [Option.bind_some, e2]
    cases k with
    | false =>
      exact lcD_run (fun i => I (i + 1)) (e3 rfl) (fun i => hst (i + 1)) fun i x acc h e q => step (i + 1) x acc h (by simpa using e) q
    | true =>
      obtain ⟨y, h2, e5, e6⟩ := e4 rfl
      obtain ⟨ds, h', e7, e8⟩ := lcD_run (st := st) (tg := tg) (se := se) (tc := tc) (te := te) (xs := xs) (fun i acc h => I (i + 1) (y :: acc) h) e6 (fun i acc => hst (i + 1) (y :: acc)) fun i x acc h e q => step (i + 1) x (y :: acc) h (by simpa using e) q
      refine ⟨y :: ds, h', ?_, e8⟩
      simp only [e5, Option.bind_some, e7, Option.map_some]
/-- nothing is changed -/
theorem lcD_pure {st : Hs → Prop} {tg : Tg} {se : S} {tc : S → Hs → Option (Bool × Hs)} {te : ME} {h : Hs} (hst : st h) (p : D → Bool) (f : D → D) (s1 : D → S) : ∀ {xs : List D}
    (hx : ∀ x ∈ xs, putT tg x se = some (s1 x) ∧ tc (s1 x) h = some (p x, h) ∧ (p x = true → te (s1 x) h = some (f x, h))), lcD st tg se tc te xs h = some ((xs.filter p).map f, h)
  | [], hx => by
    unfold lcD
    rw [if_pos hst]
    rfl
  | x :: xs, hx => by
    have ih := lcD_pure (tg := tg) (se := se) (tc := tc) (te := te) hst p f s1 (xs := xs) fun y hy => hx y (List.mem_cons_of_mem _ hy)
    obtain ⟨e1, e2, e3⟩ := hx x List.mem_cons_self
    unfold lcD
    rw [if_pos hst, e1]
    simp only [Option.bind_some, e2]
    cases e : p x with
    | false =>
      rw [List.filter_cons_of_neg (by rw [e]; decide)]
      exact ih
    | true =>
      rw [List.filter_cons_of_pos e]
      simp only [e3 e, Option.bind_some, ih, Option.map_some, List.map_cons]
/-- no test -/
theorem lcD_map {st : Hs → Prop} {tg : Tg} {se : S} {te : ME} {h : Hs} (hst : st h) (f : D → D) (s1 : D → S) {xs : List D}
    (hx : ∀ x ∈ xs, putT tg x se = some (s1 x) ∧ te (s1 x) h = some (f x, h)) : lcD st tg se (fun _ h => some (true, h)) te xs h = some (xs.map f, h) := by
  rw [lcD_pure hst (fun _ => true) f s1 fun x hx' => ⟨(hx x hx').1, rfl, fun _ => (hx x hx').2⟩, List.filter_eq_self.mpr fun _ _ => rfl]
theorem whN_mono {t : S → Hs → Option (Bool × Hs)} {b : MS} : ∀ {n m : Nat} {se : S} {h : Hs} {r : Fl × S × Hs}, whN t b n se h = some r → n ≤ m → whN t b m se h = some r
  | 0, m, se, h, r, e, _ => by simp [whN] at e
  | n + 1, 0, se, h, r, e, hm => by omega
  | n + 1, m + 1, se, h, r, e, hm => by
    unfold whN at e ⊢
    obtain ⟨⟨k, h1⟩, e1, e⟩ := Option.bind_eq_some_iff.mp e
    rw [e1]
    simp only [Option.bind_some]
    cases k with
    | false => exact e
    | true =>
      obtain ⟨⟨r1, s2, h2⟩, e2, e⟩ := Option.bind_eq_some_iff.mp e
      simp only [e2, Option.bind_some]
      cases r1 with
      | nx => exact whN_mono e (by omega)
      | ct => exact whN_mono e (by omega)
      | bk => exact e
      | rt d => exact e
theorem whD_of {t : S → Hs → Option (Bool × Hs)} {b : MS} {n : Nat} {se : S} {h : Hs} {r : Fl × S × Hs} (e : whN t b n se h = some r) : whD t b se h = some r := by
  have ex : ∃ n, (whN t b n se h).isSome = true := ⟨n, by rw [e]; rfl⟩
  unfold whD
  rw [dif_pos ex]
  have hs := ex.choose_spec
  obtain ⟨r', e'⟩ := Option.isSome_iff_exists.mp hs
  have h1 := whN_mono e (Nat.le_max_left n ex.choose)
  have h2 := whN_mono e' (Nat.le_max_right n ex.choose)
  rw [h1] at h2
  cases h2
  exact e'
/-- a while, by a measure -/
theorem whD_run {t : S → Hs → Option (Bool × Hs)} {b : MS} (I : Nat → S → Hs → Prop) (R : Fl × S × Hs → Prop) (step : ∀ m se h, I m se h → ∃ k h1, t se h = some (k, h1) ∧ (k = false → R (.nx, se, h1)) ∧ (k = true → ∃ r, b se h1 = some r ∧ (match r.1 with
      | .nx => ∃ m', m' < m ∧ I m' r.2.1 r.2.2 | .ct => ∃ m', m' < m ∧ I m' r.2.1 r.2.2 | .bk => R (.nx, r.2) | .rt d => R (.rt d, r.2)))) : ∀ {m : Nat} {se : S} {h : Hs}, I m se h → ∃ r, whD t b se h = some r ∧ R r := by
  have go : ∀ (m : Nat) {se : S} {h : Hs}, I m se h → ∃ n r, whN t b n se h = some r ∧ R r := by
    intro m
    induction m using Nat.strongRecOn with
    | _ m ih =>
      intro se h i0
      obtain ⟨k, h1, e1, e2, e3⟩ := step m se h i0
      cases k with
      | false => exact ⟨1, _, by unfold whN; rw [e1]; rfl, e2 rfl⟩
      | true =>
        obtain ⟨⟨r1, s2, h2⟩, e4, e5⟩ := e3 rfl
        cases r1 with
        | nx =>
          obtain ⟨m', hm, i1⟩ := e5
          obtain ⟨n, r, e6, e7⟩ := ih m' hm i1
          exact ⟨n + 1, r, by unfold whN; rw [e1]; simp only [Option.bind_some, e4]; exact e6, e7⟩
        | ct =>
          obtain ⟨m', hm, i1⟩ := e5
          obtain ⟨n, r, e6, e7⟩ := ih m' hm i1
          exact ⟨n + 1, r, by unfold whN; rw [e1]; simp only [Option.bind_some, e4]; exact e6, e7⟩
        | bk => exact ⟨1, _, by unfold whN; rw [e1]; simp only [Option.bind_some, e4], e5⟩
        | rt d => exact ⟨1, _, by unfold whN; rw [e1]; simp only [Option.bind_some, e4], e5⟩
  intro m se h i0
  obtain ⟨n, r, e, q⟩ := go m i0
  exact ⟨r, whD_of e, q⟩

/-! ### calls -/
theorem call_rt {T : Tb} {n f : Nat} {d : Df} {ds : List D} {h h' h'' : Hs} {v r : D} (e : T.P[f]? = some d) (hl : ds.length = d.ps.length) (eb : ∃ se, exB (cn T n) d.body (startD d.N.length ds) h = some (.rt v, se, h')) (el : leave d.cut h v h' = some (r, h'')) :
    call T (n + 1) f ds h = some (r, h'') := by
  obtain ⟨se, eb⟩ := eb
  have eb : exB ⟨call T n, fun i => (T.G[i]?).map (·.2), call T (n - 1), T.fok, T.ini⟩ d.body (startD d.N.length ds) h = some (.rt v, se, h') := eb
  simp only [call, e, if_pos hl, eb, Option.bind_some, el]
theorem call_nx {T : Tb} {n f : Nat} {d : Df} {ds : List D} {h h' h'' : Hs} {r : D} (e : T.P[f]? = some d) (hl : ds.length = d.ps.length) (eb : ∃ se, exB (cn T n) d.body (startD d.N.length ds) h = some (.nx, se, h')) (el : leave d.cut h .non h' = some (r, h'')) :
    call T (n + 1) f ds h = some (r, h'') := by
  obtain ⟨se, eb⟩ := eb
  have eb : exB ⟨call T n, fun i => (T.G[i]?).map (·.2), call T (n - 1), T.fok, T.ini⟩ d.body (startD d.N.length ds) h = some (.nx, se, h') := eb
  simp only [call, e, if_pos hl, eb, Option.bind_some, el]
end Cr
/-! Law functions 0: words for running core texts. -/
namespace Cr
open PySem PySem.Spec PyProof.Rows L2
/-- a natural number, a set of them -/
def dN (n : Nat) : D := .int (n : Int)
def dNs (s : List Nat) : List D := s.map dN
def dS (s : List Nat) : D := .tup (dNs s)
/-- the def of the number f has this body -/
structure Has (T : Tb) (f : Nat) (body : CB) (np nN : Nat) (cut : Bool) : Prop where
  ex : ∃ d, T.P[f]? = some d ∧ d.body = body ∧ d.ps.length = np ∧ d.N.length = nN ∧ d.cut = cut
section
variable {T : Tb} {n f np nN : Nat} {b : CB} {ds : List D} {h h' h'' : Hs} {v r : D}
theorem Has.rt {cut : Bool} (H : Has T f b np nN cut) (hl : ds.length = np) (eb : ∃ se, exB (cn T n) b (startD nN ds) h = some (.rt v, se, h')) (el : leave cut h v h' = some (r, h'')) : call T (n + 1) f ds h = some (r, h'') := by
  obtain ⟨d, e, rfl, rfl, rfl, rfl⟩ := H.ex
  exact call_rt e hl eb el
theorem Has.nx {cut : Bool} (H : Has T f b np nN cut) (hl : ds.length = np) (eb : ∃ se, exB (cn T n) b (startD nN ds) h = some (.nx, se, h')) (el : leave cut h .non h' = some (r, h'')) : call T (n + 1) f ds h = some (r, h'') := by
  obtain ⟨d, e, rfl, rfl, rfl, rfl⟩ := H.ex
  exact call_nx e hl eb el
end
section
variable {c : Cn} {se se1 : S} {h h1 : Hs} {s : CS} {b : CB} {r : Fl × S × Hs}
theorem exB_cons (e1 : exS c s se h = some (.nx, se1, h1)) : exB c (.cons s b) se h = exB c b se1 h1 := by
  show ((exS c s se h).bind fun r => match r.1 with | .nx => exB c b r.2.1 r.2.2 | _ => some r) = _
  rw [e1]
  rfl
theorem exB_rt {d : D} (e1 : exS c s se h = some (.rt d, se1, h1)) : exB c (.cons s b) se h = some (.rt d, se1, h1) := by
  show ((exS c s se h).bind fun r => match r.1 with | .nx => exB c b r.2.1 r.2.2 | _ => some r) = _
  rw [e1]
  rfl
theorem exS_for {tg : Tg} {it : CI} {p : IT} (e : evI c it se h = some (p, h1)) : exS c (.for_ tg it b) se h = forD p.st tg (exB c b) p.xs se h1 := by
  show ((evI c it se h).bind fun p => forD p.1.st tg (exB c b) p.1.xs se p.2) = _
  rw [e]
  rfl
theorem exS_whl {t : CT} : exS c (.whl t b) se h = whD (evT c t) (exB c b) se h := rfl
theorem evF_disp {es : CA} : evF c (.disp es) se h = (evA c es se h).bind fun p => if p.1.length ≤ sizeLine then some p else none := rfl
theorem evF_comp {own : List (Str × Nat)} {tg : Tg} {it : CI} {cc : CC} {elt : CE} {p : IT} (e : evI c it se h = some (p, h1)) (hl : p.xs.length ≤ sizeLine) :
    evF c (.comp own tg it cc elt) se h = lcD p.st tg (wipeD se (own.map (·.2))) (evC c cc) (ev c elt) p.xs h1 := by
  show ((evI c it se h).bind fun p => if p.1.xs.length ≤ sizeLine then lcD p.1.st tg (wipeD se (own.map (·.2))) (evC c cc) (ev c elt) p.1.xs p.2 else none) = _
  rw [e]
  show (if p.xs.length ≤ sizeLine then _ else _) = _
  rw [if_pos hl]
theorem evF_lst {e : CE} : evF c (.lst e) se h = (ev c e se h).bind fun p => match p.1 with
      | .scr _ => none
      | d => (seqOf p.2 d).map fun xs => (xs, p.2) := rfl
theorem evF_lrg {e : CE} {j : Int} (e1 : ev c e se h = some (.int j, h1)) (hj : -(2 ^ 62) ≤ j ∧ j ≤ 16777216) : evF c (.lrg e) se h = some ((List.range j.toNat).map fun (k : Nat) => D.int (0 + (k : Int)), h1) := by
  unfold evF
  rw [e1]
  simp only [Option.bind_some]
  rw [if_pos hj]
theorem evI_seq {e : CE} : evI c (.seq e) se h = (ev c e se h).bind fun p => match p.1 with
      | .tup xs => some (⟨xs, fun _ => True⟩, p.2)
      | .lst xs => some (⟨xs, fun _ => True⟩, p.2)
      | .ref n => match p.2[n]? with
        | some (.lst xs) => some (⟨xs, fun h => h[n]? = some (.lst xs)⟩, p.2)
        | _ => none
      | _ => none := rfl
theorem evI_rng1 {e : CE} {j : Int} (e1 : ev c e se h = some (.int j, h1)) (hj : -(2 ^ 62) ≤ j ∧ j < 2 ^ 62) : evI c (.rng1 e) se h = some (⟨(List.range j.toNat).map fun (k : Nat) => D.int (0 + (k : Int)), fun _ => True⟩, h1) := by
  unfold evI
  rw [e1]
  simp only [Option.bind_some]
  rw [if_pos hj]
theorem nat_rng {m : Nat} (h : m ≤ 1000000) : -(2 ^ 62) ≤ (m : Int) ∧ (m : Int) < 2 ^ 62 := ⟨by omega, by omega⟩
theorem evI_rngN {e : CE} {m : Nat} (hm : m ≤ 1000000) (e1 : ev c e se h = some (dN m, h1)) : evI c (.rng1 e) se h = some (⟨(List.range m).map fun (k : Nat) => D.int (0 + (k : Int)), fun _ => True⟩, h1) := by
  rw [evI_rng1 e1 (nat_rng hm), Int.toNat_natCast]
theorem evF_slk {a : CE} {lo st : Int} : evF c (.slk a lo st) se h = (ev c a se h).bind fun p => match p.1 with
      | .lst xs => some (pickD xs lo st, p.2)
      | .ref n => match p.2[n]? with | some (.lst xs) => some (pickD xs lo st, p.2) | _ => none
      | _ => none := rfl
theorem evF_cat {a b : CE} : evF c (.cat a b) se h = (ev c a se h).bind fun p => (ev c b se p.2).bind fun q => match res q.2 p.1, res q.2 q.1 with
      | .lst xs, .lst ys => if xs.length + ys.length ≤ sizeLine then some (xs ++ ys, q.2) else none
      | _, _ => none := rfl
end
section
variable {c : Cn} {se : S} {h h1 h2 : Hs}
theorem ev_call {f : Nat} {es : CA} {ds : List D} (e : evA c es se h = some (ds, h1)) : ev c (.call f es) se h = c.cf f ds h1 := by
  show ((evA c es se h).bind fun p => c.cf f p.1 p.2) = _
  rw [e]
  rfl
theorem ev_blt {b : Bl} {es : CA} {ds : List D} {d : D} (e : evA c es se h = some (ds, h1)) (e2 : bltD b h1 ds = some d) : ev c (.blt b es) se h = some (d, h1) := by
  show ((evA c es se h).bind fun p => (bltD b p.2 p.1).map fun d => (d, p.2)) = _
  rw [e]
  show ((bltD b h1 ds).map fun d => (d, h1)) = _
  rw [e2]
  rfl
theorem ev_pl {f : CF} {xs : List D} (e : evF c f se h = some (xs, h1)) : ev c (.pl f) se h = some (.lst xs, h1) := by
  show ((evF c f se h).map fun p => (D.lst p.1, p.2)) = _
  rw [e]
  rfl
theorem ev_bx {f : CF} {xs : List D} (e : evF c f se h = some (xs, h1)) : ev c (.bx f) se h = some (.ref h1.length, h1 ++ [.lst xs]) := by
  show ((evF c f se h).map fun p => (D.ref p.2.length, p.2 ++ [O.lst p.1])) = _
  rw [e]
  rfl
theorem evA_nil : evA c .nil se h = some ([], h) := rfl
theorem evA_cons {e : CE} {es : CA} {d : D} {ds : List D} (e1 : ev c e se h = some (d, h1)) (e2 : evA c es se h1 = some (ds, h2)) : evA c (.cons e es) se h = some (d :: ds, h2) := by
  show ((ev c e se h).bind fun p => (evA c es se p.2).map fun q => (p.1 :: q.1, q.2)) = _
  rw [e1]
  show ((evA c es se h1).map fun q => (d :: q.1, q.2)) = _
  rw [e2]
  rfl
theorem evA_one {e : CE} {d : D} (e1 : ev c e se h = some (d, h1)) : evA c (.cons e .nil) se h = some ([d], h1) := evA_cons e1 rfl
theorem evI_lst {e : CE} {xs : List D} (e1 : ev c e se h = some (.lst xs, h1)) : evI c (.seq e) se h = some (⟨xs, fun _ => True⟩, h1) := by
  rw [evI_seq, e1]
  rfl
theorem exS_set {i : Nat} {e : CE} {d : D} (e1 : ev c e se h = some (d, h1)) : exS c (.set i e) se h = some (.nx, se.set i (some d), h1) := by
  show ((ev c e se h).map fun p => (Fl.nx, se.set i (some p.1), p.2)) = _
  rw [e1]
  rfl
theorem exS_ret {e : CE} {d : D} (e1 : ev c e se h = some (d, h1)) : exS c (.ret e) se h = some (.rt d, se, h1) := by
  show ((ev c e se h).map fun p => (Fl.rt p.1, se, p.2)) = _
  rw [e1]
  rfl
theorem exS_exp {e : CE} {d : D} (e1 : ev c e se h = some (d, h1)) : exS c (.exp e) se h = some (.nx, se, h1) := by
  show ((ev c e se h).map fun p => (Fl.nx, se, p.2)) = _
  rw [e1]
  rfl
theorem exB_nil : exB c .nil se h = some (.nx, se, h) := rfl
theorem exS_ifT {t : CT} {a b : CB} (e1 : evT c t se h = some (true, h1)) : exS c (.ife t a b) se h = exB c a se h1 := by
  show ((evT c t se h).bind fun p => match p.1 with | true => exB c a se p.2 | false => exB c b se p.2) = _
  rw [e1]
  rfl
theorem exS_ifF {t : CT} {a b : CB} (e1 : evT c t se h = some (false, h1)) : exS c (.ife t a b) se h = exB c b se h1 := by
  show ((evT c t se h).bind fun p => match p.1 with | true => exB c a se p.2 | false => exB c b se p.2) = _
  rw [e1]
  rfl
theorem evT_andT {a b : CT} {k : Bool} (e1 : evT c a se h = some (true, h1)) (e2 : evT c b se h1 = some (k, h2)) : evT c (.and a b) se h = some (k, h2) := by
  show ((evT c a se h).bind fun p => match p.1 with | true => evT c b se p.2 | false => some (false, p.2)) = _
  rw [e1]
  exact e2
theorem evT_andF {a b : CT} (e1 : evT c a se h = some (false, h1)) : evT c (.and a b) se h = some (false, h1) := by
  show ((evT c a se h).bind fun p => match p.1 with | true => evT c b se p.2 | false => some (false, p.2)) = _
  rw [e1]
  rfl
end
theorem cn_cf {T : Tb} {n : Nat} : (cn T n).cf = call T n := rfl
theorem cn_cf1 {T : Tb} {n : Nat} : (cn T n).cf1 = call T (n - 1) := rfl
theorem cn_fok {T : Tb} {n : Nat} : (cn T n).fok = T.fok := rfl
theorem cn_ini {T : Tb} {n : Nat} : (cn T n).ini = T.ini := rfl
theorem cn_G {T : Tb} {n i : Nat} : (cn T n).G i = (T.G[i]?).map (·.2) := rfl
theorem sz_le {n : Nat} (h : n ≤ 1000000) : n ≤ sizeLine := Nat.le_trans h (by decide)
theorem sz0 : (0 ≤ sizeLine) = True := eq_true (by decide)
theorem sz1 : (1 ≤ sizeLine) = True := eq_true (by decide)
theorem sz2 : (2 ≤ sizeLine) = True := eq_true (by decide)
theorem sz3 : (3 ≤ sizeLine) = True := eq_true (by decide)
theorem sz5 : (5 ≤ sizeLine) = True := eq_true (by decide)
theorem sz6 : (6 ≤ sizeLine) = True := eq_true (by decide)

/-! ### data -/
theorem deq_nat {i j : Nat} : deq (dN i) (dN j) = decide (i = j) := by
  show ((i : Int) == (j : Int)) = _
  by_cases h : i = j
  · subst h; simp
  · rw [decide_eq_false h]
    simp only [beq_eq_false_iff_ne, ne_eq]
    omega
theorem memD_nat {s : List Nat} {k : Nat} : memD (dNs s) (dN k) = decide (k ∈ s) := by
  induction s with
  | nil => rfl
  | cons x s ih =>
    show (deq (dN x) (dN k) || memD (dNs s) (dN k)) = _
    rw [ih, deq_nat]
    by_cases h : x = k
    · subst h; simp
    · have : ¬ k = x := fun e => h e.symm
      simp [h, this]
theorem flat_nats {s : List Nat} : (dNs s).all flat = true := by
  induction s with
  | nil => rfl
  | cons x s ih => exact ih
theorem inD_tup {s : List Nat} {k : Nat} {h : Hs} : inD h (dN k) (dS s) = some (decide (k ∈ s)) := by
  show (if (flat (dN k) && (dNs s).all flat) = true then some (memD (dNs s) (dN k)) else none) = _
  rw [flat_nats, memD_nat]
  rfl
theorem inD_lst {s : List Nat} {k : Nat} {h : Hs} : inD h (dN k) (.lst (dNs s)) = some (decide (k ∈ s)) := by
  show (if ((flat (dN k) && (dNs s).all flat) || (okD (dN k) && okD (.lst (dNs s)))) = true then some (memD (dNs s) (dN k)) else none) = _
  rw [flat_nats, memD_nat]
  rfl
theorem blsOf_fn {α : Type} (g : α → Bool) : ∀ xs : List α, blsOf (xs.map fun x => D.bl (g x)) = some (xs.map g)
  | [] => rfl
  | x :: xs => by
    show (blsOf (xs.map fun x => D.bl (g x))).map (g x :: ·) = _
    rw [blsOf_fn g xs]
    rfl
theorem intsOf_fn {α : Type} (g : α → Int) : ∀ xs : List α, intsOf (xs.map fun x => D.int (g x)) = some (xs.map g)
  | [] => rfl
  | x :: xs => by
    show (intsOf (xs.map fun x => D.int (g x))).map (g x :: ·) = _
    rw [intsOf_fn g xs]
    rfl
theorem pure_nats (s : List Nat) : pureDs (dNs s) = true := pureDs_all fun x hx => by
  obtain ⟨i, _, rfl⟩ := List.mem_map.mp hx
  rfl
theorem pure_sets (ss : List (List Nat)) : pureDs (ss.map dS) = true := pureDs_all fun x hx => by
  obtain ⟨i, _, rfl⟩ := List.mem_map.mp hx
  exact pure_nats i
theorem atI_of {α : Type} {xs : List α} {j : Nat} {v : α} (h : xs[j]? = some v) : atI xs (j : Int) = some v := atI_nat h

/-! ### the heap's end -/
theorem getA {h ex : Hs} {k : Nat} : (h ++ ex)[h.length + k]? = ex[k]? := by
  rw [List.getElem?_append_right (by omega)]
  congr 1
  omega
theorem getA0 {h ex : Hs} : (h ++ ex)[h.length]? = ex[0]? := getA (k := 0)
theorem setA {h ex : Hs} {k : Nat} {o : O} : (h ++ ex).set (h.length + k) o = h ++ ex.set k o := by
  rw [List.set_append_right _ _ (by omega)]
  congr 2
  omega
theorem setA0 {h ex : Hs} {o : O} : (h ++ ex).set h.length o = h ++ ex.set 0 o := setA (k := 0)
theorem mulc {i j : Int} {P : Prop} (h : j.natAbs < 2 ^ 64) : (i.natAbs < 2 ^ 64 ∨ j.natAbs < 2 ^ 64 ∨ P) = True := eq_true (.inr (.inl h))
theorem mulcL {i j : Int} {P : Prop} (h : i.natAbs < 2 ^ 64) : (i.natAbs < 2 ^ 64 ∨ P) = True := eq_true (.inl h)
theorem rng_get {m i : Nat} {x : D} (e : ((List.range m).map fun (k : Nat) => D.int (0 + (k : Int)))[i]? = some x) : i < m ∧ x = dN i := by
  rw [List.getElem?_map] at e
  obtain ⟨k, e1, e2⟩ := Option.map_eq_some_iff.mp e
  obtain ⟨hi, e3⟩ := List.getElem?_eq_some_iff.mp e1
  rw [List.length_range] at hi
  rw [List.getElem_range] at e3
  subst e3 e2
  exact ⟨hi, by unfold dN; rw [Int.zero_add]⟩
end Cr
/-! Law functions 1: cells, draws, sets. -/
namespace Cr
open PySem PySem.Spec PyProof.Rows L2
section
variable {T : Tb} {n : Nat} {h : Hs}
/-! ### _law_inside, _law_holds -/
def Finside : CF := .comp [("_law_place", 2)] (.nm 2) (.seq (.var 0)) .no (.cmp .In (.var 2) (.var 1))
def Binside : CB := (.cons (.ret (.blt .all (.cons (.pl Finside) .nil))) .nil)
def insideB (r s : List Nat) : Bool := r.all fun x => decide (x ∈ s)
theorem inside_ok {f : Nat} (H : Has T f Binside 2 3 true) {r s : List Nat} {o : D} (ho : o = dS s ∨ o = .lst (dNs s)) (hr : r.length ≤ sizeLine) : call T (n + 1) f [dS r, o] h = some (.bl (insideB r s), h) := by
  refine H.rt rfl ?_ (leave_same rfl)
  have hin : ∀ k, inD h (dN k) o = some (decide (k ∈ s)) := by
    rcases ho with rfl | rfl
    · exact fun k => inD_tup
    · exact fun k => inD_lst
  have e1 : evF (cn T n) Finside [some (dS r), some o, none] h = some (r.map fun x => D.bl (decide (x ∈ s)), h) := by
    unfold Finside
    rw [evF_comp (p := ⟨dNs r, fun _ => True⟩) (h1 := h) rfl (by show (dNs r).length ≤ _; unfold dNs; rw [List.length_map]; exact hr)]
    refine Eq.trans (lcD_map trivial (fun x => .bl (memD (dNs s) x)) (fun x => [some (dS r), some o, some x]) fun x hx => ?_) ?_
    · obtain ⟨k, _, rfl⟩ := List.mem_map.mp hx
      refine ⟨rfl, ?_⟩
      simp only [exS, ev, evA, evO, evT, evC, evI_seq, evF_disp, evF_lst, evF_slk, evF_cat, cn_cf, startD, bltD, lenD, Cr.intD, tupleD, sumD, anyD, allD, absD, minD, maxD, gcdD, binD, cmpD, truD, idxD, isiD, mthD, isN, List.map_cons, List.map_nil, List.length_cons, List.length_nil, Option.bind_some, Option.map_some, List.set_cons_zero, List.set_cons_succ, List.getElem?_cons_zero, List.getElem?_cons_succ, List.replicate, List.cons_append, List.nil_append, List.append_nil, Nat.zero_add, Nat.add_one_sub_one, Nat.sub_self, putT, putS, if_true, and_self, sz0, sz1, sz2, sz3, sz5, sz6, wipeD, Nat.reduceAdd, Nat.reduceSub, hin, memD_nat]
    · show some ((r.map dN).map _, h) = _
      rw [List.map_map]
      congr 2
      refine List.map_congr_left fun x _ => ?_
      show D.bl (memD (dNs s) (dN x)) = _
      rw [memD_nat]
  refine ⟨[some (dS r), some o, none], ?_⟩
  rw [Binside, exB_rt (d := .bl (insideB r s)) (se1 := [some (dS r), some o, none]) (h1 := h)]
  simp only [exS, ev, evA, evO, evT, evC, evI_seq, evF_disp, evF_lst, evF_slk, evF_cat, cn_cf, startD, bltD, lenD, Cr.intD, tupleD, sumD, anyD, allD, absD, minD, maxD, gcdD, binD, cmpD, truD, idxD, isiD, mthD, isN, List.map_cons, List.map_nil, List.length_cons, List.length_nil, Option.bind_some, Option.map_some, List.set_cons_zero, List.set_cons_succ, List.getElem?_cons_zero, List.getElem?_cons_succ, List.replicate, List.cons_append, List.nil_append, List.append_nil, Nat.zero_add, Nat.add_one_sub_one, Nat.sub_self, putT, putS, if_true, and_self, sz0, sz1, sz2, sz3, sz5, sz6, wipeD, Nat.reduceAdd, Nat.reduceSub, e1, lstOf, blsOf_fn, List.all_map]
  rfl
def Fholds (iinside : Nat) : CF := .comp [("_law_row", 2)] (.nm 2) (.seq (.var 0)) .no (.call iinside (.cons (.var 2) (.cons (.var 1) .nil)))
def Bholds (iinside : Nat) : CB := (.cons (.ret (.blt .any (.cons (.pl (Fholds iinside)) .nil))) .nil)
def holdsB (rows : List (List Nat)) (s : List Nat) : Bool := rows.any fun r => insideB r s
theorem holds_ok {f g : Nat} (H : Has T f (Bholds g) 2 3 true) (H1 : Has T g Binside 2 3 true) {rows : List (List Nat)} {s : List Nat} {o : D} (ho : o = dS s ∨ o = .lst (dNs s)) (hr : ∀ r ∈ rows, r.length ≤ sizeLine) (hl : rows.length ≤ sizeLine) :
    call T (n + 2) f [.lst (rows.map dS), o] h = some (.bl (holdsB rows s), h) := by
  refine H.rt rfl ?_ (leave_same rfl)
  have e1 : evF (cn T (n + 1)) (Fholds g) [some (.lst (rows.map dS)), some o, none] h = some (rows.map fun r => D.bl (insideB r s), h) := by
    unfold Fholds
    rw [evF_comp (p := ⟨rows.map dS, fun _ => True⟩) (h1 := h) rfl (by show (rows.map dS).length ≤ _; rw [List.length_map]; exact hl)]
    refine Eq.trans (lcD_map trivial (fun x => match x with | .tup xs => .bl (xs.all fun y => memD (dNs s) y) | _ => .non) (fun x => [some (.lst (rows.map dS)), some o, some x]) fun x hx => ?_) ?_
    · obtain ⟨r, hr', rfl⟩ := List.mem_map.mp hx
      refine ⟨rfl, ?_⟩
      simp only [exS, ev, evA, evO, evT, evC, evI_seq, evF_disp, evF_lst, evF_slk, evF_cat, cn_cf, startD, bltD, lenD, Cr.intD, tupleD, sumD, anyD, allD, absD, minD, maxD, gcdD, binD, cmpD, truD, idxD, isiD, mthD, isN, List.map_cons, List.map_nil, List.length_cons, List.length_nil, Option.bind_some, Option.map_some, List.set_cons_zero, List.set_cons_succ, List.getElem?_cons_zero, List.getElem?_cons_succ, List.replicate, List.cons_append, List.nil_append, List.append_nil, Nat.zero_add, Nat.add_one_sub_one, Nat.sub_self, putT, putS, if_true, and_self, sz0, sz1, sz2, sz3, sz5, sz6, wipeD, Nat.reduceAdd, Nat.reduceSub, inside_ok (n := n) (h := h) H1 ho (hr r hr')]
      show some (D.bl (insideB r s), h) = some (D.bl ((dNs r).all fun y => memD (dNs s) y), h)
      unfold insideB dNs
      rw [List.all_map]
      congr 4
      funext k
      exact memD_nat.symm
    · rw [List.map_map]
      congr 2
      refine List.map_congr_left fun r _ => ?_
      show D.bl ((dNs r).all fun y => memD (dNs s) y) = _
      unfold insideB dNs
      rw [List.all_map]
      congr 2
      funext k
      exact memD_nat
  refine ⟨[some (.lst (rows.map dS)), some o, none], ?_⟩
  rw [Bholds, exB_rt (d := .bl (holdsB rows s)) (se1 := [some (.lst (rows.map dS)), some o, none]) (h1 := h)]
  simp only [exS, ev, evA, evO, evT, evC, evI_seq, evF_disp, evF_lst, evF_slk, evF_cat, cn_cf, startD, bltD, lenD, Cr.intD, tupleD, sumD, anyD, allD, absD, minD, maxD, gcdD, binD, cmpD, truD, idxD, isiD, mthD, isN, List.map_cons, List.map_nil, List.length_cons, List.length_nil, Option.bind_some, Option.map_some, List.set_cons_zero, List.set_cons_succ, List.getElem?_cons_zero, List.getElem?_cons_succ, List.replicate, List.cons_append, List.nil_append, List.append_nil, Nat.zero_add, Nat.add_one_sub_one, Nat.sub_self, putT, putS, if_true, and_self, sz0, sz1, sz2, sz3, sz5, sz6, wipeD, Nat.reduceAdd, Nat.reduceSub, e1, lstOf, blsOf_fn, List.any_map]
  rfl

/-! ### _law_cell, _law_draws, _law_take, _law_number -/
def Bcell : CB := (.cons (.ife (.cmp .Lt (.var 1) (.blt .len (.cons (.var 0) .nil))) (.cons (.ret (.blt .int (.cons (.idx (.var 0) (.var 1)) .nil))) .nil) .nil) (.cons (.ret (.cst (.int 0))) .nil))
theorem cell_ok {f : Nat} (H : Has T f Bcell 2 2 true) (ns : List Int) (k : Nat) : ∃ c : Int, ∀ n h, call T (n + 1) f [.scr ns, dN k] h = some (.int c, h) := by
  by_cases hk : k < ns.length
  · refine ⟨ns[k], fun n h => H.rt rfl ⟨[some (.scr ns), some (dN k)], ?_⟩ (leave_same rfl)⟩
    have e1 : atI ns (k : Int) = some ns[k] := atI_nat (List.getElem?_eq_getElem hk)
    have e2 : decide ((k : Int) < ((ns.map D.int).length : Int)) = true := decide_eq_true (by rw [List.length_map]; omega)
    unfold Bcell
    refine exB_rt ?_
    simp only [exB, exS, ev, evA, evO, evT, evC, evI_seq, evF_disp, evF_lst, evF_slk, evF_cat, cn_cf, startD, bltD, lenD, Cr.intD, tupleD, sumD, anyD, allD, absD, minD, maxD, gcdD, binD, cmpD, truD, idxD, isiD, mthD, isN, List.map_cons, List.map_nil, List.length_cons, List.length_nil, Option.bind_some, Option.map_some, List.set_cons_zero, List.set_cons_succ, List.getElem?_cons_zero, List.getElem?_cons_succ, List.replicate, List.cons_append, List.nil_append, List.append_nil, Nat.zero_add, Nat.add_one_sub_one, Nat.sub_self, putT, putS, if_true, and_self, sz0, sz1, sz2, sz3, sz5, sz6, wipeD, Nat.reduceAdd, Nat.reduceSub, dN, seqOf, e1, e2]
  · refine ⟨0, fun n h => H.rt rfl ⟨[some (.scr ns), some (dN k)], ?_⟩ (leave_same rfl)⟩
    have e2 : decide ((k : Int) < ((ns.map D.int).length : Int)) = false := decide_eq_false (by rw [List.length_map]; omega)
    unfold Bcell
    rw [exB_cons (se1 := [some (.scr ns), some (dN k)]) (h1 := h) (by simp only [exB, exS, ev, evA, evO, evT, evC, evI_seq, evF_disp, evF_lst, evF_slk, evF_cat, cn_cf, startD, bltD, lenD, Cr.intD, tupleD, sumD, anyD, allD, absD, minD, maxD, gcdD, binD, cmpD, truD, idxD, isiD, mthD, isN, List.map_cons, List.map_nil, List.length_cons, List.length_nil, Option.bind_some, Option.map_some, List.set_cons_zero, List.set_cons_succ, List.getElem?_cons_zero, List.getElem?_cons_succ, List.replicate, List.cons_append, List.nil_append, List.append_nil, Nat.zero_add, Nat.add_one_sub_one, Nat.sub_self, putT, putS, if_true, and_self, sz0, sz1, sz2, sz3, sz5, sz6, wipeD, Nat.reduceAdd, Nat.reduceSub, dN, seqOf, e2])]
    refine exB_rt ?_
    simp only [exS, ev, evA, evO, evT, evC, evI_seq, evF_disp, evF_lst, evF_slk, evF_cat, cn_cf, startD, bltD, lenD, Cr.intD, tupleD, sumD, anyD, allD, absD, minD, maxD, gcdD, binD, cmpD, truD, idxD, isiD, mthD, isN, List.map_cons, List.map_nil, List.length_cons, List.length_nil, Option.bind_some, Option.map_some, List.set_cons_zero, List.set_cons_succ, List.getElem?_cons_zero, List.getElem?_cons_succ, List.replicate, List.cons_append, List.nil_append, List.append_nil, Nat.zero_add, Nat.add_one_sub_one, Nat.sub_self, putT, putS, if_true, and_self, sz0, sz1, sz2, sz3, sz5, sz6, wipeD, Nat.reduceAdd, Nat.reduceSub]
def Btake : CB := (.cons (.ife (.not (.tru (.var 0))) (.cons (.ret (.cst (.int 0))) .nil) .nil) (.cons (.ret (.bin .Mod (.blt .int (.cons (.mth .pop (.var 0) (.cons (.cst (.int 0)) .nil)) .nil)) (.var 1))) .nil))
/-- a draw below m -/
theorem take_ok {f : Nat} (H : Has T f Btake 2 2 true) {ns : List Int} {k m : Nat} (hm : 0 < m) (e : h[k]? = some (.lst (ns.map D.int))) : ∃ (c : Nat) (ns' : List Int), c < m ∧ ns'.length ≤ ns.length ∧ ∀ n, call T (n + 1) f [.ref k, dN m] h = some (dN c, h.set k (.lst (ns'.map D.int))) := by
  cases ns with
  | nil =>
    refine ⟨0, [], hm, Nat.le_refl _, fun n => ?_⟩
    have e0 : h.set k (.lst (List.map D.int [])) = h := by
      have hk := (List.getElem?_eq_some_iff.mp e).1
      apply List.ext_getElem?
      intro j
      by_cases hj : k = j
      · subst hj; rw [List.getElem?_set_self hk, e]
      · rw [List.getElem?_set_ne hj]
    rw [e0]
    refine H.rt rfl ⟨[some (.ref k), some (dN m)], ?_⟩ (leave_same rfl)
    unfold Btake
    refine exB_rt ?_
    simp only [exB, exS, ev, evA, evO, evT, evC, evI_seq, evF_disp, evF_lst, evF_slk, evF_cat, cn_cf, startD, bltD, lenD, Cr.intD, tupleD, sumD, anyD, allD, absD, minD, maxD, gcdD, binD, cmpD, truD, idxD, isiD, mthD, isN, List.map_cons, List.map_nil, List.length_cons, List.length_nil, Option.bind_some, Option.map_some, List.set_cons_zero, List.set_cons_succ, List.getElem?_cons_zero, List.getElem?_cons_succ, List.replicate, List.cons_append, List.nil_append, List.append_nil, Nat.zero_add, Nat.add_one_sub_one, Nat.sub_self, putT, putS, if_true, and_self, sz0, sz1, sz2, sz3, sz5, sz6, wipeD, Nat.reduceAdd, Nat.reduceSub, e, List.isEmpty_nil, Bool.not_true, Bool.not_false, dN]
    rfl
  | cons x ns =>
    have hm' : (0 : Int) < (m : Int) := by omega
    have hx0 := Int.emod_nonneg x (show (m : Int) ≠ 0 by omega)
    have hx1 := Int.emod_lt_of_pos x hm'
    refine ⟨(x % m).toNat, ns, by omega, by simp, fun n => ?_⟩
    have e3 : dN (x % m).toNat = .int (x % m) := by unfold dN; rw [Int.toNat_of_nonneg hx0]
    rw [e3]
    refine H.rt rfl ⟨[some (.ref k), some (dN m)], ?_⟩ (leave_set rfl (pureDs_ints _))
    unfold Btake
    rw [exB_cons (se1 := [some (.ref k), some (dN m)]) (h1 := h) (by simp only [exB, exS, ev, evA, evO, evT, evC, evI_seq, evF_disp, evF_lst, evF_slk, evF_cat, cn_cf, startD, bltD, lenD, Cr.intD, tupleD, sumD, anyD, allD, absD, minD, maxD, gcdD, binD, cmpD, truD, idxD, isiD, mthD, isN, List.map_cons, List.map_nil, List.length_cons, List.length_nil, Option.bind_some, Option.map_some, List.set_cons_zero, List.set_cons_succ, List.getElem?_cons_zero, List.getElem?_cons_succ, List.replicate, List.cons_append, List.nil_append, List.append_nil, Nat.zero_add, Nat.add_one_sub_one, Nat.sub_self, putT, putS, if_true, and_self, sz0, sz1, sz2, sz3, sz5, sz6, wipeD, Nat.reduceAdd, Nat.reduceSub, e, List.isEmpty_cons, Bool.not_true, Bool.not_false])]
    refine exB_rt ?_
    simp only [exS, ev, evA, evO, evT, evC, evI_seq, evF_disp, evF_lst, evF_slk, evF_cat, cn_cf, startD, bltD, lenD, Cr.intD, tupleD, sumD, anyD, allD, absD, minD, maxD, gcdD, binD, cmpD, truD, idxD, isiD, mthD, isN, List.map_cons, List.map_nil, List.length_cons, List.length_nil, Option.bind_some, Option.map_some, List.set_cons_zero, List.set_cons_succ, List.getElem?_cons_zero, List.getElem?_cons_succ, List.replicate, List.cons_append, List.nil_append, List.append_nil, Nat.zero_add, Nat.add_one_sub_one, Nat.sub_self, putT, putS, if_true, and_self, sz0, sz1, sz2, sz3, sz5, sz6, wipeD, Nat.reduceAdd, Nat.reduceSub, lstOf, e, popD, dN, if_pos hm']
def Bnumber : CB := (.cons (.ret (.andv (.isi (.var 0) .int) (.notv (.isi (.var 0) .bool)))) .nil)
theorem number_ok {f : Nat} (H : Has T f Bnumber 1 1 true) (i : Int) : call T (n + 1) f [.int i] h = some (.bl true, h) := by
  refine H.rt rfl ⟨[some (.int i)], ?_⟩ (leave_same rfl)
  unfold Bnumber
  refine exB_rt ?_
  simp only [exS, ev, evA, evO, evT, evC, evI_seq, evF_disp, evF_lst, evF_slk, evF_cat, cn_cf, startD, bltD, lenD, Cr.intD, tupleD, sumD, anyD, allD, absD, minD, maxD, gcdD, binD, cmpD, truD, idxD, isiD, mthD, isN, List.map_cons, List.map_nil, List.length_cons, List.length_nil, Option.bind_some, Option.map_some, List.set_cons_zero, List.set_cons_succ, List.getElem?_cons_zero, List.getElem?_cons_succ, List.replicate, List.cons_append, List.nil_append, List.append_nil, Nat.zero_add, Nat.add_one_sub_one, Nat.sub_self, putT, putS, if_true, and_self, sz0, sz1, sz2, sz3, sz5, sz6, wipeD, Nat.reduceAdd, Nat.reduceSub, Bool.not_false]
def Ldraws : CB := (.cons (.set 5 (.bin .Mod (.blt .int (.cons (.bin .Add (.bin .Add (.bin .Mult (.var 5) (.cst (.int 16807))) (.bin .Mult (.var 7) (.cst (.int 101)))) (.cst (.int 7))) .nil)) (.cst (.int 2147483647)))) (.cons (.ife (.cmp .Gt (.var 4) (.cst (.int 0))) (.cons (.exp (.mth .append (.var 6) (.cons (.bin .Mod (.blt .int (.cons (.var 4) .nil)) (.cst (.int 997))) .nil))) (.cons (.set 4 (.bin .FloorDiv (.var 4) (.cst (.int 997)))) .nil)) (.cons (.exp (.mth .append (.var 6) (.cons (.bin .Mod (.blt .int (.cons (.bin .FloorDiv (.var 5) (.cst (.int 1009))) .nil)) (.cst (.int 997))) .nil))) .nil)) .nil))
def Bdraws (icell : Nat) : CB := (.cons (.set 3 (.call icell (.cons (.var 0) (.cons (.var 1) .nil)))) (.cons (.set 4 (.cst (.int 0))) (.cons (.ife (.cmp .GtE (.var 3) (.bin .Pow (.cst (.int 10)) (.cst (.int 18)))) (.cons (.set 4 (.bin .FloorDiv (.var 3) (.bin .Pow (.cst (.int 10)) (.cst (.int 18))))) .nil) .nil) (.cons (.set 5 (.bin .Mod (.blt .int (.cons (.bin .Add (.bin .Add (.bin .Mult (.var 3) (.cst (.int 48271))) (.bin .Mult (.var 1) (.cst (.int 69621)))) (.cst (.int 12345))) .nil)) (.cst (.int 2147483647)))) (.cons (.set 6 (.bx (.disp .nil))) (.cons (.for_ (.nm 7) (.rng1 (.var 2)) Ldraws) (.cons (.ret (.var 6)) .nil)))))))
theorem draws_loop {ns : List Int} {k cnt : Nat} {c : Int} (hc : cnt ≤ 1000) (s rest : Int) : ∃ se' h', forD (fun _ => True) (.nm 7) (exB (cn T (n + 1)) Ldraws) ((List.range cnt).map fun (k : Nat) => D.int (0 + (k : Int)))
      [some (.scr ns), some (dN k), some (dN cnt), some (.int c), some (.int rest), some (.int s), some (.ref h.length), none] (h ++ [.lst []]) = some (.nx, se', h') ∧
      ∃ s rest ds x7, se' = [some (.scr ns), some (dN k), some (dN cnt), some (.int c), some (.int rest), some (.int s), some (.ref h.length), x7] ∧ h' = h ++ [.lst (List.map D.int ds)] ∧ ds.length ≤ cnt := by
  have p3 : ((0 : Int) < 2147483647) = True := eq_true (by decide)
  have p4 : ((997 : Int).natAbs.log2 < 9000) = True := eq_true (by decide)
  have p5 : ((0 : Int) < 1009 ∧ (1009 : Int).natAbs.log2 < 9000) = True := eq_true (by decide)
  have p6 : ((0 : Int) < 997) = True := eq_true (by decide)
  obtain ⟨se', h', e2, s', rest', ds, x7, e3, e4, e5⟩ := forD_run (st := fun _ => True) (tg := .nm 7) (b := exB (cn T (n + 1)) Ldraws) (xs := (List.range cnt).map fun (k : Nat) => D.int (0 + (k : Int)))
    (fun i se h' => ∃ (s rest : Int) (ds : List Int) (x7 : Option D), se = [some (.scr ns), some (dN k), some (dN cnt), some (.int c), some (.int rest), some (.int s), some (.ref h.length), x7] ∧ h' = h ++ [.lst (List.map D.int ds)] ∧ ds.length ≤ i)
    (se := [some (.scr ns), some (dN k), some (dN cnt), some (.int c), some (.int rest), some (.int s), some (.ref h.length), none]) (h := h ++ [.lst []]) ⟨s, rest, [], none, rfl, rfl, Nat.le_refl _⟩ (fun _ _ _ _ => trivial) (by
      rintro i x se h' ex ⟨s, rest, ds, x7, rfl, rfl, hl⟩
      obtain ⟨hi, rfl⟩ := rng_get ex
      have hz : ((ds.map D.int).length < sizeLine) = True := eq_true (by rw [List.length_map]; have := sz_le (show i + 1 ≤ 1000000 by omega); omega)
      refine ⟨[some (.scr ns), some (dN k), some (dN cnt), some (.int c), some (.int rest), some (.int s), some (.ref h.length), some (dN i)], ?_⟩
      by_cases hr : rest > 0
      · refine ⟨[some (.scr ns), some (dN k), some (dN cnt), some (.int c), some (.int (rest / 997)), some (.int ((s * 16807 + (i : Int) * 101 + 7) % 2147483647)), some (.ref h.length), some (dN i)], h ++ [.lst (List.map D.int (ds ++ [rest % 997]))], rfl, ?_, _, _, _, _, rfl, rfl, by rw [List.length_append]; exact Nat.succ_le_succ hl⟩
        have d1 : decide (0 < rest) = true := decide_eq_true hr
        simp only [Ldraws, exB, exS, ev, evA, evO, evT, evC, evI_seq, evF_disp, evF_lst, evF_slk, evF_cat, cn_cf, startD, bltD, lenD, Cr.intD, tupleD, sumD, anyD, allD, absD, minD, maxD, gcdD, binD, cmpD, truD, idxD, isiD, mthD, isN, List.map_cons, List.map_nil, List.length_cons, List.length_nil, Option.bind_some, Option.map_some, List.set_cons_zero, List.set_cons_succ, List.getElem?_cons_zero, List.getElem?_cons_succ, List.replicate, List.cons_append, List.nil_append, List.append_nil, Nat.zero_add, Nat.add_one_sub_one, Nat.sub_self, putT, putS, if_true, and_self, sz0, sz1, sz2, sz3, sz5, sz6, wipeD, Nat.reduceAdd, Nat.reduceSub, dN, lstOf, appendD, mulc (j := 16807) (by decide), mulc (j := 101) (by decide), p3, p4, p6, d1, getA0, setA0, hz, List.map_append]
      · refine ⟨[some (.scr ns), some (dN k), some (dN cnt), some (.int c), some (.int rest), some (.int ((s * 16807 + (i : Int) * 101 + 7) % 2147483647)), some (.ref h.length), some (dN i)], h ++ [.lst (List.map D.int (ds ++ [(s * 16807 + (i : Int) * 101 + 7) % 2147483647 / 1009 % 997]))], rfl, ?_, _, _, _, _, rfl, rfl, by rw [List.length_append]; exact Nat.succ_le_succ hl⟩
        have d1 : decide (0 < rest) = false := decide_eq_false hr
        simp only [Ldraws, exB, exS, ev, evA, evO, evT, evC, evI_seq, evF_disp, evF_lst, evF_slk, evF_cat, cn_cf, startD, bltD, lenD, Cr.intD, tupleD, sumD, anyD, allD, absD, minD, maxD, gcdD, binD, cmpD, truD, idxD, isiD, mthD, isN, List.map_cons, List.map_nil, List.length_cons, List.length_nil, Option.bind_some, Option.map_some, List.set_cons_zero, List.set_cons_succ, List.getElem?_cons_zero, List.getElem?_cons_succ, List.replicate, List.cons_append, List.nil_append, List.append_nil, Nat.zero_add, Nat.add_one_sub_one, Nat.sub_self, putT, putS, if_true, and_self, sz0, sz1, sz2, sz3, sz5, sz6, wipeD, Nat.reduceAdd, Nat.reduceSub, dN, lstOf, appendD, mulc (j := 16807) (by decide), mulc (j := 101) (by decide), p3, p5, p6, d1, getA0, setA0, hz, List.map_append])
  refine ⟨se', h', e2, s', rest', ds, x7, e3, e4, ?_⟩
  rw [List.length_map, List.length_range] at e5
  exact e5
theorem draws_go {ns : List Int} {k cnt : Nat} {c : Int} (hc : cnt ≤ 1000) (rest : Int) : ∃ ds : List Int, ∃ se, exB (cn T (n + 1)) (.cons (.set 5 (.bin .Mod (.blt .int (.cons (.bin .Add (.bin .Add (.bin .Mult (.var 3) (.cst (.int 48271))) (.bin .Mult (.var 1) (.cst (.int 69621)))) (.cst (.int 12345))) .nil)) (.cst (.int 2147483647)))) (.cons (.set 6 (.bx (.disp .nil))) (.cons (.for_ (.nm 7) (.rng1 (.var 2)) Ldraws) (.cons (.ret (.var 6)) .nil))))
    [some (.scr ns), some (dN k), some (dN cnt), some (.int c), some (.int rest), none, none, none] h = some (.rt (.ref h.length), se, h ++ [.lst (ds.map D.int)]) := by
  have p3 : ((0 : Int) < 2147483647) = True := eq_true (by decide)
  obtain ⟨se', h', e2, s', rest', ds, x7, e3, e4, e5⟩ := draws_loop (T := T) (n := n) (h := h) (ns := ns) (k := k) (c := c) hc ((c * 48271 + (k : Int) * 69621 + 12345) % 2147483647) rest
  subst e3 e4
  refine ⟨ds, [some (.scr ns), some (dN k), some (dN cnt), some (.int c), some (.int rest'), some (.int s'), some (.ref h.length), x7], ?_⟩
  rw [exB_cons (se1 := [some (.scr ns), some (dN k), some (dN cnt), some (.int c), some (.int rest), some (.int ((c * 48271 + (k : Int) * 69621 + 12345) % 2147483647)), none, none]) (h1 := h) (by
    simp only [exS, ev, evA, evO, evT, evC, evI_seq, evF_disp, evF_lst, evF_slk, evF_cat, cn_cf, startD, bltD, lenD, Cr.intD, tupleD, sumD, anyD, allD, absD, minD, maxD, gcdD, binD, cmpD, truD, idxD, isiD, mthD, isN, List.map_cons, List.map_nil, List.length_cons, List.length_nil, Option.bind_some, Option.map_some, List.set_cons_zero, List.set_cons_succ, List.getElem?_cons_zero, List.getElem?_cons_succ, List.replicate, List.cons_append, List.nil_append, List.append_nil, Nat.zero_add, Nat.add_one_sub_one, Nat.sub_self, putT, putS, if_true, and_self, sz0, sz1, sz2, sz3, sz5, sz6, wipeD, Nat.reduceAdd, Nat.reduceSub, dN, mulc (j := 48271) (by decide), mulc (j := 69621) (by decide), p3])]
  rw [exB_cons (se1 := [some (.scr ns), some (dN k), some (dN cnt), some (.int c), some (.int rest), some (.int ((c * 48271 + (k : Int) * 69621 + 12345) % 2147483647)), some (.ref h.length), none]) (h1 := h ++ [.lst []]) (by simp only [exS, ev, evA, evO, evT, evC, evI_seq, evF_disp, evF_lst, evF_slk, evF_cat, cn_cf, startD, bltD, lenD, Cr.intD, tupleD, sumD, anyD, allD, absD, minD, maxD, gcdD, binD, cmpD, truD, idxD, isiD, mthD, isN, List.map_cons, List.map_nil, List.length_cons, List.length_nil, Option.bind_some, Option.map_some, List.set_cons_zero, List.set_cons_succ, List.getElem?_cons_zero, List.getElem?_cons_succ, List.replicate, List.cons_append, List.nil_append, List.append_nil, Nat.zero_add, Nat.add_one_sub_one, Nat.sub_self, putT, putS, if_true, and_self, sz0, sz1, sz2, sz3, sz5, sz6, wipeD, Nat.reduceAdd, Nat.reduceSub])]
  rw [exB_cons (se1 := [some (.scr ns), some (dN k), some (dN cnt), some (.int c), some (.int rest'), some (.int s'), some (.ref h.length), x7]) (h1 := h ++ [.lst (ds.map D.int)]) (by
    rw [exS_for (evI_rngN (m := cnt) (h1 := h ++ [.lst []]) (by omega) (by simp only [exS, ev, evA, evO, evT, evC, evI_seq, evF_disp, evF_lst, evF_slk, evF_cat, cn_cf, startD, bltD, lenD, Cr.intD, tupleD, sumD, anyD, allD, absD, minD, maxD, gcdD, binD, cmpD, truD, idxD, isiD, mthD, isN, List.map_cons, List.map_nil, List.length_cons, List.length_nil, Option.bind_some, Option.map_some, List.set_cons_zero, List.set_cons_succ, List.getElem?_cons_zero, List.getElem?_cons_succ, List.replicate, List.cons_append, List.nil_append, List.append_nil, Nat.zero_add, Nat.add_one_sub_one, Nat.sub_self, putT, putS, if_true, and_self, sz0, sz1, sz2, sz3, sz5, sz6, wipeD, Nat.reduceAdd, Nat.reduceSub]))]
    exact e2)]
  refine exB_rt ?_
  simp only [exS, ev, evA, evO, evT, evC, evI_seq, evF_disp, evF_lst, evF_slk, evF_cat, cn_cf, startD, bltD, lenD, Cr.intD, tupleD, sumD, anyD, allD, absD, minD, maxD, gcdD, binD, cmpD, truD, idxD, isiD, mthD, isN, List.map_cons, List.map_nil, List.length_cons, List.length_nil, Option.bind_some, Option.map_some, List.set_cons_zero, List.set_cons_succ, List.getElem?_cons_zero, List.getElem?_cons_succ, List.replicate, List.cons_append, List.nil_append, List.append_nil, Nat.zero_add, Nat.add_one_sub_one, Nat.sub_self, putT, putS, if_true, and_self, sz0, sz1, sz2, sz3, sz5, sz6, wipeD, Nat.reduceAdd, Nat.reduceSub]
theorem draws_hd {ns : List Int} {k cnt : Nat} {c : Int} {g : Nat} (e1 : ∀ n h, call T (n + 1) g [.scr ns, dN k] h = some (.int c, h)) : ∃ rest : Int, exB (cn T (n + 1)) (Bdraws g) [some (.scr ns), some (dN k), some (dN cnt), none, none, none, none, none] h = exB (cn T (n + 1)) (.cons (.set 5 (.bin .Mod (.blt .int (.cons (.bin .Add (.bin .Add (.bin .Mult (.var 3) (.cst (.int 48271))) (.bin .Mult (.var 1) (.cst (.int 69621)))) (.cst (.int 12345))) .nil)) (.cst (.int 2147483647)))) (.cons (.set 6 (.bx (.disp .nil))) (.cons (.for_ (.nm 7) (.rng1 (.var 2)) Ldraws) (.cons (.ret (.var 6)) .nil))))
    [some (.scr ns), some (dN k), some (dN cnt), some (.int c), some (.int rest), none, none, none] h := by
  have p1 : ((0 : Int) ≤ 18 ∧ (18 : Int) ≤ 1000000 ∧ (10 : Int).natAbs < 2 ^ 64) = True := eq_true (by decide)
  have p2 : ((0 : Int) < 10 ^ (18 : Int).toNat ∧ ((10 : Int) ^ (18 : Int).toNat).natAbs.log2 < 9000) = True := eq_true (by decide)
  unfold Bdraws
  rw [exB_cons (se1 := [some (.scr ns), some (dN k), some (dN cnt), some (.int c), none, none, none, none]) (h1 := h) (by simp only [exS, ev, evA, evO, evT, evC, evI_seq, evF_disp, evF_lst, evF_slk, evF_cat, cn_cf, startD, bltD, lenD, Cr.intD, tupleD, sumD, anyD, allD, absD, minD, maxD, gcdD, binD, cmpD, truD, idxD, isiD, mthD, isN, List.map_cons, List.map_nil, List.length_cons, List.length_nil, Option.bind_some, Option.map_some, List.set_cons_zero, List.set_cons_succ, List.getElem?_cons_zero, List.getElem?_cons_succ, List.replicate, List.cons_append, List.nil_append, List.append_nil, Nat.zero_add, Nat.add_one_sub_one, Nat.sub_self, putT, putS, if_true, and_self, sz0, sz1, sz2, sz3, sz5, sz6, wipeD, Nat.reduceAdd, Nat.reduceSub, e1])]
  rw [exB_cons (se1 := [some (.scr ns), some (dN k), some (dN cnt), some (.int c), some (.int 0), none, none, none]) (h1 := h) (by simp only [exS, ev, evA, evO, evT, evC, evI_seq, evF_disp, evF_lst, evF_slk, evF_cat, cn_cf, startD, bltD, lenD, Cr.intD, tupleD, sumD, anyD, allD, absD, minD, maxD, gcdD, binD, cmpD, truD, idxD, isiD, mthD, isN, List.map_cons, List.map_nil, List.length_cons, List.length_nil, Option.bind_some, Option.map_some, List.set_cons_zero, List.set_cons_succ, List.getElem?_cons_zero, List.getElem?_cons_succ, List.replicate, List.cons_append, List.nil_append, List.append_nil, Nat.zero_add, Nat.add_one_sub_one, Nat.sub_self, putT, putS, if_true, and_self, sz0, sz1, sz2, sz3, sz5, sz6, wipeD, Nat.reduceAdd, Nat.reduceSub])]
  by_cases hb : (10 : Int) ^ (18 : Int).toNat ≤ c
  · refine ⟨c / 10 ^ (18 : Int).toNat, ?_⟩
    rw [exB_cons (se1 := [some (.scr ns), some (dN k), some (dN cnt), some (.int c), some (.int (c / 10 ^ (18 : Int).toNat)), none, none, none]) (h1 := h) (by
      simp only [exB, exS, ev, evA, evO, evT, evC, evI_seq, evF_disp, evF_lst, evF_slk, evF_cat, cn_cf, startD, bltD, lenD, Cr.intD, tupleD, sumD, anyD, allD, absD, minD, maxD, gcdD, binD, cmpD, truD, idxD, isiD, mthD, isN, List.map_cons, List.map_nil, List.length_cons, List.length_nil, Option.bind_some, Option.map_some, List.set_cons_zero, List.set_cons_succ, List.getElem?_cons_zero, List.getElem?_cons_succ, List.replicate, List.cons_append, List.nil_append, List.append_nil, Nat.zero_add, Nat.add_one_sub_one, Nat.sub_self, putT, putS, if_true, and_self, sz0, sz1, sz2, sz3, sz5, sz6, wipeD, Nat.reduceAdd, Nat.reduceSub, p1, p2, decide_eq_true hb])]
  · refine ⟨0, ?_⟩
    rw [exB_cons (se1 := [some (.scr ns), some (dN k), some (dN cnt), some (.int c), some (.int 0), none, none, none]) (h1 := h) (by
      simp only [exB, exS, ev, evA, evO, evT, evC, evI_seq, evF_disp, evF_lst, evF_slk, evF_cat, cn_cf, startD, bltD, lenD, Cr.intD, tupleD, sumD, anyD, allD, absD, minD, maxD, gcdD, binD, cmpD, truD, idxD, isiD, mthD, isN, List.map_cons, List.map_nil, List.length_cons, List.length_nil, Option.bind_some, Option.map_some, List.set_cons_zero, List.set_cons_succ, List.getElem?_cons_zero, List.getElem?_cons_succ, List.replicate, List.cons_append, List.nil_append, List.append_nil, Nat.zero_add, Nat.add_one_sub_one, Nat.sub_self, putT, putS, if_true, and_self, sz0, sz1, sz2, sz3, sz5, sz6, wipeD, Nat.reduceAdd, Nat.reduceSub, p1, decide_eq_false hb])]
theorem draws_ok {f g : Nat} (H : Has T f (Bdraws g) 3 8 false) (H1 : Has T g Bcell 2 2 true) (ns : List Int) (k cnt : Nat) (hc : cnt ≤ 1000) : ∃ ds : List Int, call T (n + 2) f [.scr ns, dN k, dN cnt] h = some (.ref h.length, h ++ [.lst (ds.map D.int)]) := by
  obtain ⟨c, e1⟩ := cell_ok H1 ns k
  obtain ⟨rest, e3⟩ := draws_hd (T := T) (n := n) (h := h) (ns := ns) (k := k) (cnt := cnt) (c := c) (g := g) e1
  obtain ⟨ds, se, e4⟩ := draws_go (T := T) (n := n) (h := h) (ns := ns) (k := k) (cnt := cnt) (c := c) hc rest
  exact ⟨ds, H.rt rfl ⟨se, e3.trans e4⟩ leave_no⟩
end
end Cr
/-! Law functions 2: families, chances, subsets, gcd, fractions. -/
namespace Cr
open PySem PySem.Spec PyProof.Rows L2
section
variable {T : Tb} {n : Nat} {h : Hs}
/-! ### _law_family -/
def Cfam (gt : Nat) : CF := .comp [("_law_place", 6)] (.nm 6) (.rng1 (.var 2)) (.yes (.cmp .Lt (.call gt (.cons (.var 4) (.cons (.cst (.int 5)) .nil))) (.cst (.int 2)))) (.var 6)
def Lfam (gt : Nat) : CB := (.cons (.exp (.mth .append (.var 3) (.cons (.blt .tuple (.cons (.pl (Cfam gt)) .nil)) .nil))) .nil)
def Bfamily (gd gt : Nat) : CB := (.cons (.set 3 (.bx (.disp .nil))) (.cons (.set 4 (.call gd (.cons (.var 0) (.cons (.var 1) (.cons (.cst (.int 40)) .nil))))) (.cons (.for_ (.nm 5) (.rng1 (.call gt (.cons (.var 4) (.cons (.cst (.int 6)) .nil)))) (Lfam gt)) (.cons (.ret (.var 3)) .nil))))
theorem fam_comp {gt : Nat} (Ht : Has T gt Btake 2 2 true) {x0 x1 : Option D} {x5 x6 : Option D} {a : O} {m : Nat} (hm : m ≤ 1000) (ds : List Int) : ∃ (r : List Nat) (ds' : List Int), r.Sublist (List.range m) ∧
    evF (cn T (n + 1)) (Cfam gt) [x0, x1, some (dN m), some (.ref h.length), some (.ref (h.length + 1)), x5, x6] (h ++ [a, .lst (ds.map D.int)]) = some (dNs r, h ++ [a, .lst (ds'.map D.int)]) := by
  obtain ⟨out, h', e1, r, ds', e2, e3, e4⟩ := lcD_run (st := fun _ => True) (tg := .nm 6) (se := [x0, x1, some (dN m), some (.ref h.length), some (.ref (h.length + 1)), x5, none])
    (tc := evC (cn T (n + 1)) (.yes (.cmp .Lt (.call gt (.cons (.var 4) (.cons (.cst (.int 5)) .nil))) (.cst (.int 2))))) (te := ev (cn T (n + 1)) (.var 6)) (xs := (List.range m).map fun (k : Nat) => D.int (0 + (k : Int)))
    (fun i acc h' => ∃ (r : List Nat) (ds' : List Int), acc = dNs r ∧ r.Sublist (List.range i) ∧ h' = h ++ [a, .lst (ds'.map D.int)]) (h := h ++ [a, .lst (ds.map D.int)]) ⟨[], ds, rfl, List.Sublist.slnil, rfl⟩ (fun _ _ _ _ => trivial) (by
      rintro i x acc h' ex ⟨r, ds', rfl, hr, rfl⟩
      obtain ⟨hi, rfl⟩ := rng_get ex
      obtain ⟨c, ds2, hc, _, et⟩ := take_ok (h := h ++ [a, .lst (ds'.map D.int)]) Ht (k := h.length + 1) (m := 5) (by decide) (by rw [getA]; rfl)
      have et : call T (n + 1) gt [.ref (h.length + 1), .int 5] (h ++ [a, .lst (ds'.map D.int)]) = some (dN c, h ++ [a, .lst (ds2.map D.int)]) := by
        have := et n
        rw [setA] at this
        exact this
      refine ⟨[x0, x1, some (dN m), some (.ref h.length), some (.ref (h.length + 1)), x5, some (dN i)], decide ((c : Int) < 2), h ++ [a, .lst (ds2.map D.int)], rfl, ?_, fun _ => ⟨r, ds2, rfl, ?_, rfl⟩, fun _ => ⟨dN i, h ++ [a, .lst (ds2.map D.int)], ?_, r ++ [i], ds2, ?_, ?_, rfl⟩⟩
      · simp only [exS, ev, evA, evO, evT, evC, evI_seq, evF_disp, evF_lst, evF_slk, evF_cat, cn_cf, startD, bltD, lenD, Cr.intD, tupleD, sumD, anyD, allD, absD, minD, maxD, gcdD, binD, cmpD, truD, idxD, isiD, mthD, isN, List.map_cons, List.map_nil, List.length_cons, List.length_nil, Option.bind_some, Option.map_some, List.set_cons_zero, List.set_cons_succ, List.getElem?_cons_zero, List.getElem?_cons_succ, List.replicate, List.cons_append, List.nil_append, List.append_nil, Nat.zero_add, Nat.add_one_sub_one, Nat.sub_self, putT, putS, if_true, and_self, sz0, sz1, sz2, sz3, sz5, sz6, wipeD, Nat.reduceAdd, Nat.reduceSub, et]
        rfl
      · rw [List.range_succ]
        exact hr.trans (List.sublist_append_left _ _)
      · simp only [exS, ev, evA, evO, evT, evC, evI_seq, evF_disp, evF_lst, evF_slk, evF_cat, cn_cf, startD, bltD, lenD, Cr.intD, tupleD, sumD, anyD, allD, absD, minD, maxD, gcdD, binD, cmpD, truD, idxD, isiD, mthD, isN, List.map_cons, List.map_nil, List.length_cons, List.length_nil, Option.bind_some, Option.map_some, List.set_cons_zero, List.set_cons_succ, List.getElem?_cons_zero, List.getElem?_cons_succ, List.replicate, List.cons_append, List.nil_append, List.append_nil, Nat.zero_add, Nat.add_one_sub_one, Nat.sub_self, putT, putS, if_true, and_self, sz0, sz1, sz2, sz3, sz5, sz6, wipeD, Nat.reduceAdd, Nat.reduceSub]
      · unfold dNs
        rw [List.map_append]
        rfl
      · rw [List.range_succ]
        exact hr.append (List.Sublist.refl _))
  subst e2 e4
  rw [List.length_map, List.length_range] at e3
  refine ⟨r, ds', e3, ?_⟩
  unfold Cfam
  rw [evF_comp (evI_rngN (m := m) (h1 := h ++ [a, .lst (ds.map D.int)]) (by omega) (by simp only [exS, ev, evA, evO, evT, evC, evI_seq, evF_disp, evF_lst, evF_slk, evF_cat, cn_cf, startD, bltD, lenD, Cr.intD, tupleD, sumD, anyD, allD, absD, minD, maxD, gcdD, binD, cmpD, truD, idxD, isiD, mthD, isN, List.map_cons, List.map_nil, List.length_cons, List.length_nil, Option.bind_some, Option.map_some, List.set_cons_zero, List.set_cons_succ, List.getElem?_cons_zero, List.getElem?_cons_succ, List.replicate, List.cons_append, List.nil_append, List.append_nil, Nat.zero_add, Nat.add_one_sub_one, Nat.sub_self, putT, putS, if_true, and_self, sz0, sz1, sz2, sz3, sz5, sz6, wipeD, Nat.reduceAdd, Nat.reduceSub])) (by show (List.map _ _).length ≤ _; rw [List.length_map, List.length_range]; exact sz_le (by omega))]
  exact e1
theorem family_ok {f gd gt gc : Nat} (H : Has T f (Bfamily gd gt) 3 7 true) (Hd : Has T gd (Bdraws gc) 3 8 false) (Hc : Has T gc Bcell 2 2 true) (Ht : Has T gt Btake 2 2 true) (ns : List Int) (k m : Nat) (hm : m ≤ 1000) :
    ∃ rows : List (List Nat), (∀ r ∈ rows, r.Sublist (List.range m)) ∧ rows.length ≤ 5 ∧ call T (n + 3) f [.scr ns, dN k, dN m] h = some (.lst (rows.map dS), h) := by
  obtain ⟨ds, e1⟩ := draws_ok (n := n) (h := h ++ [.lst []]) Hd Hc ns k 40 (by decide)
  have e1 : call T (n + 2) gd [.scr ns, dN k, .int 40] (h ++ [.lst []]) = some (.ref (h.length + 1), h ++ [.lst [], .lst (ds.map D.int)]) := by
    have := e1
    rw [List.length_append, List.append_assoc] at this
    exact this
  obtain ⟨c, ds2, hc, _, et⟩ := take_ok (h := h ++ [.lst [], .lst (ds.map D.int)]) Ht (k := h.length + 1) (m := 6) (by decide) (by rw [getA]; rfl)
  have et : call T (n + 2) gt [.ref (h.length + 1), .int 6] (h ++ [.lst [], .lst (ds.map D.int)]) = some (dN c, h ++ [.lst [], .lst (ds2.map D.int)]) := by
    have := et (n + 1)
    rw [setA] at this
    exact this
  obtain ⟨se', h', e2, rows, ds3, x5, x6, e3, e4, e5, e6⟩ := forD_run (st := fun _ => True) (tg := .nm 5) (b := exB (cn T (n + 2)) (Lfam gt)) (xs := (List.range c).map fun (k : Nat) => D.int (0 + (k : Int)))
    (fun i se h' => ∃ (rows : List (List Nat)) (ds : List Int) (x5 x6 : Option D), se = [some (.scr ns), some (dN k), some (dN m), some (.ref h.length), some (.ref (h.length + 1)), x5, x6] ∧ h' = h ++ [.lst (rows.map dS), .lst (ds.map D.int)] ∧ (∀ r ∈ rows, r.Sublist (List.range m)) ∧ rows.length = i)
    (se := [some (.scr ns), some (dN k), some (dN m), some (.ref h.length), some (.ref (h.length + 1)), none, none]) (h := h ++ [.lst [], .lst (ds2.map D.int)]) ⟨[], ds2, none, none, rfl, rfl, fun r hr => absurd hr List.not_mem_nil, rfl⟩ (fun _ _ _ _ => trivial) (by
      rintro i x se h' ex ⟨rows, ds, x5, x6, rfl, rfl, hr, hl⟩
      obtain ⟨hi, rfl⟩ := rng_get ex
      obtain ⟨r, ds', hs, ec⟩ := fam_comp (n := n + 1) (h := h) Ht (x0 := some (.scr ns)) (x1 := some (dN k)) (x5 := some (dN i)) (x6 := x6) (a := .lst (rows.map dS)) hm ds
      refine ⟨[some (.scr ns), some (dN k), some (dN m), some (.ref h.length), some (.ref (h.length + 1)), some (dN i), x6], [some (.scr ns), some (dN k), some (dN m), some (.ref h.length), some (.ref (h.length + 1)), some (dN i), x6], h ++ [.lst ((rows ++ [r]).map dS), .lst (ds'.map D.int)], rfl, ?_, rows ++ [r], ds', _, _, rfl, rfl, fun q hq => ?_, ?_⟩
      · have hz : ((rows.map dS).length < sizeLine) = True := eq_true (by rw [List.length_map]; have := sz_le (show i + 1 ≤ 1000000 by omega); omega)
        have p0 : (h ++ [O.lst (rows.map dS), O.lst (ds.map D.int)])[h.length]? = some (.lst (rows.map dS)) := by rw [getA0]; rfl
        have p1 : (h ++ [O.lst (rows.map dS), O.lst (ds'.map D.int)])[h.length]? = some (.lst (rows.map dS)) := by rw [getA0]; rfl
        simp only [Lfam, exB, exS, ev, evA, evO, evT, evC, evI_seq, evF_disp, evF_lst, evF_slk, evF_cat, cn_cf, startD, bltD, lenD, Cr.intD, tupleD, sumD, anyD, allD, absD, minD, maxD, gcdD, binD, cmpD, truD, idxD, isiD, mthD, isN, List.map_cons, List.map_nil, List.length_cons, List.length_nil, Option.bind_some, Option.map_some, List.set_cons_zero, List.set_cons_succ, List.getElem?_cons_zero, List.getElem?_cons_succ, List.replicate, List.cons_append, List.nil_append, List.append_nil, Nat.zero_add, Nat.add_one_sub_one, Nat.sub_self, putT, putS, if_true, and_self, sz0, sz1, sz2, sz3, sz5, sz6, wipeD, Nat.reduceAdd, Nat.reduceSub, lstOf, p0, p1, ec, appendD, hz, setA0, List.map_append]
        rfl
      · rcases List.mem_append.mp hq with hq | hq
        · exact hr q hq
        · rw [List.mem_singleton.mp hq]; exact hs
      · rw [List.length_append, hl]; rfl)
  subst e3 e4
  rw [List.length_map, List.length_range] at e6
  refine ⟨rows, e5, by omega, H.rt rfl ⟨[some (.scr ns), some (dN k), some (dN m), some (.ref h.length), some (.ref (h.length + 1)), x5, x6], ?_⟩ (leave_ext (ex := [.lst (rows.map dS), .lst (ds3.map D.int)]) (frzN_ref (Nat.le_refl _) (by rw [getA0]; rfl) (pure_sets rows)))⟩
  unfold Bfamily
  rw [exB_cons (se1 := [some (.scr ns), some (dN k), some (dN m), some (.ref h.length), none, none, none]) (h1 := h ++ [.lst []]) (by simp only [exS, ev, evA, evO, evT, evC, evI_seq, evF_disp, evF_lst, evF_slk, evF_cat, cn_cf, startD, bltD, lenD, Cr.intD, tupleD, sumD, anyD, allD, absD, minD, maxD, gcdD, binD, cmpD, truD, idxD, isiD, mthD, isN, List.map_cons, List.map_nil, List.length_cons, List.length_nil, Option.bind_some, Option.map_some, List.set_cons_zero, List.set_cons_succ, List.getElem?_cons_zero, List.getElem?_cons_succ, List.replicate, List.cons_append, List.nil_append, List.append_nil, Nat.zero_add, Nat.add_one_sub_one, Nat.sub_self, putT, putS, if_true, and_self, sz0, sz1, sz2, sz3, sz5, sz6, wipeD, Nat.reduceAdd, Nat.reduceSub])]
  rw [exB_cons (se1 := [some (.scr ns), some (dN k), some (dN m), some (.ref h.length), some (.ref (h.length + 1)), none, none]) (h1 := h ++ [.lst [], .lst (ds.map D.int)]) (by simp only [exS, ev, evA, evO, evT, evC, evI_seq, evF_disp, evF_lst, evF_slk, evF_cat, cn_cf, startD, bltD, lenD, Cr.intD, tupleD, sumD, anyD, allD, absD, minD, maxD, gcdD, binD, cmpD, truD, idxD, isiD, mthD, isN, List.map_cons, List.map_nil, List.length_cons, List.length_nil, Option.bind_some, Option.map_some, List.set_cons_zero, List.set_cons_succ, List.getElem?_cons_zero, List.getElem?_cons_succ, List.replicate, List.cons_append, List.nil_append, List.append_nil, Nat.zero_add, Nat.add_one_sub_one, Nat.sub_self, putT, putS, if_true, and_self, sz0, sz1, sz2, sz3, sz5, sz6, wipeD, Nat.reduceAdd, Nat.reduceSub, e1])]
  rw [exB_cons (se1 := [some (.scr ns), some (dN k), some (dN m), some (.ref h.length), some (.ref (h.length + 1)), x5, x6]) (h1 := h ++ [.lst (rows.map dS), .lst (ds3.map D.int)]) (by
    rw [exS_for (evI_rngN (m := c) (h1 := h ++ [.lst [], .lst (ds2.map D.int)]) (by omega) (by simp only [exS, ev, evA, evO, evT, evC, evI_seq, evF_disp, evF_lst, evF_slk, evF_cat, cn_cf, startD, bltD, lenD, Cr.intD, tupleD, sumD, anyD, allD, absD, minD, maxD, gcdD, binD, cmpD, truD, idxD, isiD, mthD, isN, List.map_cons, List.map_nil, List.length_cons, List.length_nil, Option.bind_some, Option.map_some, List.set_cons_zero, List.set_cons_succ, List.getElem?_cons_zero, List.getElem?_cons_succ, List.replicate, List.cons_append, List.nil_append, List.append_nil, Nat.zero_add, Nat.add_one_sub_one, Nat.sub_self, putT, putS, if_true, and_self, sz0, sz1, sz2, sz3, sz5, sz6, wipeD, Nat.reduceAdd, Nat.reduceSub, et]))]
    exact e2)]
  refine exB_rt ?_
  simp only [exS, ev, evA, evO, evT, evC, evI_seq, evF_disp, evF_lst, evF_slk, evF_cat, cn_cf, startD, bltD, lenD, Cr.intD, tupleD, sumD, anyD, allD, absD, minD, maxD, gcdD, binD, cmpD, truD, idxD, isiD, mthD, isN, List.map_cons, List.map_nil, List.length_cons, List.length_nil, Option.bind_some, Option.map_some, List.set_cons_zero, List.set_cons_succ, List.getElem?_cons_zero, List.getElem?_cons_succ, List.replicate, List.cons_append, List.nil_append, List.append_nil, Nat.zero_add, Nat.add_one_sub_one, Nat.sub_self, putT, putS, if_true, and_self, sz0, sz1, sz2, sz3, sz5, sz6, wipeD, Nat.reduceAdd, Nat.reduceSub]

/-! ### _law_chances -/
def Lchn (gc gt : Nat) : CB := (.cons (.set 6 (.call gt (.cons (.var 3) (.cons (.cst (.int 6)) .nil)))) (.cons (.exp (.mth .append (.var 4) (.cons (.idx (.tup (.cons (.cst (.int 0)) (.cons (.cst (.int 1000)) (.cons (.cst (.int 500)) (.cons (.cst (.int 250)) (.cons (.bin .Add (.cst (.int 1)) (.call gt (.cons (.var 3) (.cons (.cst (.int 9)) .nil)))) (.cons (.bin .Mod (.blt .int (.cons (.call gc (.cons (.var 0) (.cons (.bin .Add (.bin .Add (.var 1) (.cst (.int 1))) (.var 5)) .nil))) .nil)) (.cst (.int 1001))) .nil))))))) (.var 6)) .nil))) .nil))
def Bchances (gc gd gt : Nat) : CB := (.cons (.set 3 (.call gd (.cons (.var 0) (.cons (.var 1) (.cons (.cst (.int 20)) .nil))))) (.cons (.set 4 (.bx (.disp .nil))) (.cons (.for_ (.nm 5) (.rng1 (.var 2)) (Lchn gc gt)) (.cons (.ret (.blt .tuple (.cons (.var 4) .nil))) .nil))))
theorem chances_ok {f gd gt gc : Nat} (H : Has T f (Bchances gc gd gt) 3 7 true) (Hd : Has T gd (Bdraws gc) 3 8 false) (Hc : Has T gc Bcell 2 2 true) (Ht : Has T gt Btake 2 2 true) (ns : List Int) (k m : Nat) (hm : m ≤ 1000) :
    ∃ cs : List Nat, cs.length = m ∧ (∀ c ∈ cs, c ≤ 1000) ∧ call T (n + 3) f [.scr ns, dN k, dN m] h = some (dS cs, h) := by
  obtain ⟨ds, e1⟩ := draws_ok (n := n) (h := h) Hd Hc ns k 20 (by decide)
  have e1 : call T (n + 2) gd [.scr ns, dN k, .int 20] h = some (.ref h.length, h ++ [.lst (ds.map D.int)]) := e1
  obtain ⟨se', h', e2, cs, ds3, x5, x6, e3, e4, e5, e6⟩ := forD_run (st := fun _ => True) (tg := .nm 5) (b := exB (cn T (n + 2)) (Lchn gc gt)) (xs := (List.range m).map fun (k : Nat) => D.int (0 + (k : Int)))
    (fun i se h' => ∃ (cs : List Nat) (ds : List Int) (x5 x6 : Option D), se = [some (.scr ns), some (dN k), some (dN m), some (.ref h.length), some (.ref (h.length + 1)), x5, x6] ∧ h' = h ++ [.lst (ds.map D.int), .lst (dNs cs)] ∧ (∀ c ∈ cs, c ≤ 1000) ∧ cs.length = i)
    (se := [some (.scr ns), some (dN k), some (dN m), some (.ref h.length), some (.ref (h.length + 1)), none, none]) (h := h ++ [.lst (ds.map D.int), .lst []]) ⟨[], ds, none, none, rfl, rfl, fun r hr => absurd hr List.not_mem_nil, rfl⟩ (fun _ _ _ _ => trivial) (by
      rintro i x se h' ex ⟨cs, ds, x5, x6, rfl, rfl, hr, hl⟩
      obtain ⟨hi, rfl⟩ := rng_get ex
      obtain ⟨c1, ds2, hc1, _, et⟩ := take_ok (h := h ++ [.lst (ds.map D.int), .lst (dNs cs)]) Ht (k := h.length) (m := 6) (by decide) (by rw [getA0]; rfl)
      have et1 : call T (n + 2) gt [.ref h.length, .int 6] (h ++ [.lst (ds.map D.int), .lst (dNs cs)]) = some (dN c1, h ++ [.lst (ds2.map D.int), .lst (dNs cs)]) := by
        have := et (n + 1)
        rw [setA0] at this
        exact this
      obtain ⟨c2, ds3, hc2, _, et⟩ := take_ok (h := h ++ [.lst (ds2.map D.int), .lst (dNs cs)]) Ht (k := h.length) (m := 9) (by decide) (by rw [getA0]; rfl)
      have et2 : call T (n + 2) gt [.ref h.length, .int 9] (h ++ [.lst (ds2.map D.int), .lst (dNs cs)]) = some (dN c2, h ++ [.lst (ds3.map D.int), .lst (dNs cs)]) := by
        have := et (n + 1)
        rw [setA0] at this
        exact this
      obtain ⟨c3, ec⟩ := cell_ok Hc ns (k + 1 + i)
      have ec : call T (n + 2) gc [.scr ns, .int ((k : Int) + 1 + (i : Int))] (h ++ [.lst (ds3.map D.int), .lst (dNs cs)]) = some (.int c3, h ++ [.lst (ds3.map D.int), .lst (dNs cs)]) := by
        have := ec (n + 1) (h ++ [.lst (ds3.map D.int), .lst (dNs cs)])
        have e : dN (k + 1 + i) = .int ((k : Int) + 1 + (i : Int)) := by unfold dN; rw [Int.natCast_add, Int.natCast_add]; rfl
        rw [e] at this
        exact this
      have c3a := Int.emod_nonneg c3 (show (1001 : Int) ≠ 0 by decide)
      have c3b := Int.emod_lt_of_pos c3 (show (0 : Int) < 1001 by decide)
      obtain ⟨v, hv, evv⟩ : ∃ v : Nat, v ≤ 1000 ∧ atI [D.int 0, .int 1000, .int 500, .int 250, .int (1 + (c2 : Int)), .int (c3 % 1001)] (c1 : Int) = some (dN v) := by
        have g : ∀ (d : D), [D.int 0, .int 1000, .int 500, .int 250, .int (1 + (c2 : Int)), .int (c3 % 1001)][c1]? = some d → atI [D.int 0, .int 1000, .int 500, .int 250, .int (1 + (c2 : Int)), .int (c3 % 1001)] (c1 : Int) = some d := fun d e => atI_nat e
        have hc : c1 = 0 ∨ c1 = 1 ∨ c1 = 2 ∨ c1 = 3 ∨ c1 = 4 ∨ c1 = 5 := by omega
        rcases hc with rfl | rfl | rfl | rfl | rfl | rfl
        · exact ⟨0, by decide, g _ rfl⟩
        · exact ⟨1000, by decide, g _ rfl⟩
        · exact ⟨500, by decide, g _ rfl⟩
        · exact ⟨250, by decide, g _ rfl⟩
        · exact ⟨1 + c2, by omega, g _ (by unfold dN; rw [Int.natCast_add]; rfl)⟩
        · exact ⟨(c3 % 1001).toNat, by omega, g _ (by unfold dN; rw [Int.toNat_of_nonneg c3a]; rfl)⟩
      refine ⟨[some (.scr ns), some (dN k), some (dN m), some (.ref h.length), some (.ref (h.length + 1)), some (dN i), x6], [some (.scr ns), some (dN k), some (dN m), some (.ref h.length), some (.ref (h.length + 1)), some (dN i), some (dN c1)], h ++ [.lst (ds3.map D.int), .lst (dNs (cs ++ [v]))], rfl, ?_, cs ++ [v], ds3, _, _, rfl, rfl, fun q hq => ?_, ?_⟩
      · have hz : ((dNs cs).length < sizeLine) = True := eq_true (by unfold dNs; rw [List.length_map]; have := sz_le (show i + 1 ≤ 1000000 by omega); omega)
        have p0 : (h ++ [O.lst (ds2.map D.int), O.lst (dNs cs)])[h.length + 1]? = some (.lst (dNs cs)) := by rw [getA]; rfl
        have p1 : (h ++ [O.lst (ds3.map D.int), O.lst (dNs cs)])[h.length + 1]? = some (.lst (dNs cs)) := by rw [getA]; rfl
        have p4 : ((0 : Int) < 1001) = True := eq_true (by decide)
        have e7 : dNs (cs ++ [v]) = dNs cs ++ [dN v] := by unfold dNs; rw [List.map_append]; rfl
        have e8 : exS (cn T (n + 2)) (.set 6 (.call gt (.cons (.var 3) (.cons (.cst (.int 6)) .nil)))) [some (.scr ns), some (dN k), some (dN m), some (.ref h.length), some (.ref (h.length + 1)), some (dN i), x6] (h ++ [.lst (ds.map D.int), .lst (dNs cs)]) =
            some (.nx, [some (.scr ns), some (dN k), some (dN m), some (.ref h.length), some (.ref (h.length + 1)), some (dN i), some (dN c1)], h ++ [.lst (ds2.map D.int), .lst (dNs cs)]) := by simp only [exS, ev, evA, evO, evT, evC, evI_seq, evF_disp, evF_lst, evF_slk, evF_cat, cn_cf, startD, bltD, lenD, Cr.intD, tupleD, sumD, anyD, allD, absD, minD, maxD, gcdD, binD, cmpD, truD, idxD, isiD, mthD, isN, List.map_cons, List.map_nil, List.length_cons, List.length_nil, Option.bind_some, Option.map_some, List.set_cons_zero, List.set_cons_succ, List.getElem?_cons_zero, List.getElem?_cons_succ, List.replicate, List.cons_append, List.nil_append, List.append_nil, Nat.zero_add, Nat.add_one_sub_one, Nat.sub_self, putT, putS, if_true, and_self, sz0, sz1, sz2, sz3, sz5, sz6, wipeD, Nat.reduceAdd, Nat.reduceSub, et1]
        rw [Lchn, exB_cons e8]
        simp only [exB, exS, ev, evA, evO, evT, evC, evI_seq, evF_disp, evF_lst, evF_slk, evF_cat, cn_cf, startD, bltD, lenD, Cr.intD, tupleD, sumD, anyD, allD, absD, minD, maxD, gcdD, binD, cmpD, truD, idxD, isiD, mthD, isN, List.map_cons, List.map_nil, List.length_cons, List.length_nil, Option.bind_some, Option.map_some, List.set_cons_zero, List.set_cons_succ, List.getElem?_cons_zero, List.getElem?_cons_succ, List.replicate, List.cons_append, List.nil_append, List.append_nil, Nat.zero_add, Nat.add_one_sub_one, Nat.sub_self, putT, putS, if_true, and_self, sz0, sz1, sz2, sz3, sz5, sz6, wipeD, Nat.reduceAdd, Nat.reduceSub, lstOf, p0, p1, et2, dN, ec, p4, evv, appendD, hz, setA, e7]
      · rcases List.mem_append.mp hq with hq | hq
        · exact hr q hq
        · rw [List.mem_singleton.mp hq]; exact hv
      · rw [List.length_append, hl]; rfl)
  subst e3 e4
  rw [List.length_map, List.length_range] at e6
  refine ⟨cs, e6, e5, H.rt rfl ⟨[some (.scr ns), some (dN k), some (dN m), some (.ref h.length), some (.ref (h.length + 1)), x5, x6], ?_⟩ (leave_pure (ex := [.lst (ds3.map D.int), .lst (dNs cs)]) (pure_nats cs))⟩
  unfold Bchances
  rw [exB_cons (se1 := [some (.scr ns), some (dN k), some (dN m), some (.ref h.length), none, none, none]) (h1 := h ++ [.lst (ds.map D.int)]) (by simp only [exS, ev, evA, evO, evT, evC, evI_seq, evF_disp, evF_lst, evF_slk, evF_cat, cn_cf, startD, bltD, lenD, Cr.intD, tupleD, sumD, anyD, allD, absD, minD, maxD, gcdD, binD, cmpD, truD, idxD, isiD, mthD, isN, List.map_cons, List.map_nil, List.length_cons, List.length_nil, Option.bind_some, Option.map_some, List.set_cons_zero, List.set_cons_succ, List.getElem?_cons_zero, List.getElem?_cons_succ, List.replicate, List.cons_append, List.nil_append, List.append_nil, Nat.zero_add, Nat.add_one_sub_one, Nat.sub_self, putT, putS, if_true, and_self, sz0, sz1, sz2, sz3, sz5, sz6, wipeD, Nat.reduceAdd, Nat.reduceSub, e1])]
  rw [exB_cons (se1 := [some (.scr ns), some (dN k), some (dN m), some (.ref h.length), some (.ref (h.length + 1)), none, none]) (h1 := h ++ [.lst (ds.map D.int), .lst []]) (by
    simp only [exS, ev, evA, evO, evT, evC, evI_seq, evF_disp, evF_lst, evF_slk, evF_cat, cn_cf, startD, bltD, lenD, Cr.intD, tupleD, sumD, anyD, allD, absD, minD, maxD, gcdD, binD, cmpD, truD, idxD, isiD, mthD, isN, List.map_cons, List.map_nil, List.length_cons, List.length_nil, Option.bind_some, Option.map_some, List.set_cons_zero, List.set_cons_succ, List.getElem?_cons_zero, List.getElem?_cons_succ, List.replicate, List.cons_append, List.nil_append, List.append_nil, Nat.zero_add, Nat.add_one_sub_one, Nat.sub_self, putT, putS, if_true, and_self, sz0, sz1, sz2, sz3, sz5, sz6, wipeD, Nat.reduceAdd, Nat.reduceSub, List.length_append, List.append_assoc])]
  rw [exB_cons (se1 := [some (.scr ns), some (dN k), some (dN m), some (.ref h.length), some (.ref (h.length + 1)), x5, x6]) (h1 := h ++ [.lst (ds3.map D.int), .lst (dNs cs)]) (by
    rw [exS_for (evI_rngN (m := m) (h1 := h ++ [.lst (ds.map D.int), .lst []]) (by omega) (by simp only [exS, ev, evA, evO, evT, evC, evI_seq, evF_disp, evF_lst, evF_slk, evF_cat, cn_cf, startD, bltD, lenD, Cr.intD, tupleD, sumD, anyD, allD, absD, minD, maxD, gcdD, binD, cmpD, truD, idxD, isiD, mthD, isN, List.map_cons, List.map_nil, List.length_cons, List.length_nil, Option.bind_some, Option.map_some, List.set_cons_zero, List.set_cons_succ, List.getElem?_cons_zero, List.getElem?_cons_succ, List.replicate, List.cons_append, List.nil_append, List.append_nil, Nat.zero_add, Nat.add_one_sub_one, Nat.sub_self, putT, putS, if_true, and_self, sz0, sz1, sz2, sz3, sz5, sz6, wipeD, Nat.reduceAdd, Nat.reduceSub]))]
    exact e2)]
  refine exB_rt ?_
  have p0 : (h ++ [O.lst (ds3.map D.int), O.lst (dNs cs)])[h.length + 1]? = some (.lst (dNs cs)) := by rw [getA]; rfl
  simp only [exS, ev, evA, evO, evT, evC, evI_seq, evF_disp, evF_lst, evF_slk, evF_cat, cn_cf, startD, bltD, lenD, Cr.intD, tupleD, sumD, anyD, allD, absD, minD, maxD, gcdD, binD, cmpD, truD, idxD, isiD, mthD, isN, List.map_cons, List.map_nil, List.length_cons, List.length_nil, Option.bind_some, Option.map_some, List.set_cons_zero, List.set_cons_succ, List.getElem?_cons_zero, List.getElem?_cons_succ, List.replicate, List.cons_append, List.nil_append, List.append_nil, Nat.zero_add, Nat.add_one_sub_one, Nat.sub_self, putT, putS, if_true, and_self, sz0, sz1, sz2, sz3, sz5, sz6, wipeD, Nat.reduceAdd, Nat.reduceSub, lstOf, p0]
  rfl
end
end Cr
/-! Law functions 3: subsets, gcd, fractions. -/
namespace Cr
open PySem PySem.Spec PyProof.Rows L2
section
variable {T : Tb} {n : Nat} {h : Hs}
/-! ### _law_subsets -/
def Linner : CB := (.cons (.exp (.mth .append (.var 3) (.cons (.bin .Add (.var 4) (.tup (.cons (.var 2) .nil))) .nil))) .nil)
def Louter : CB := (.cons (.set 3 (.bx (.disp .nil))) (.cons (.for_ (.nm 4) (.seq (.var 1)) Linner) (.cons (.set 1 (.pl (.cat (.var 1) (.var 3)))) .nil)))
def Bsubsets : CB := (.cons (.set 1 (.pl (.disp (.cons (.tup .nil) .nil)))) (.cons (.for_ (.nm 2) (.seq (.var 0)) Louter) (.cons (.ret (.var 1)) .nil)))
/-- the subsets of the places in order -/
def grow (rows : List (List Nat)) (p : Nat) : List (List Nat) := rows ++ rows.map (· ++ [p])
def subsF (ps : List Nat) : List (List Nat) := ps.foldl grow [[]]
theorem subsF_snoc (ps : List Nat) (p : Nat) : subsF (ps ++ [p]) = grow (subsF ps) p := by
  unfold subsF
  rw [List.foldl_append]
  rfl
theorem take_snoc {α : Type} {xs : List α} {i : Nat} {x : α} (e : xs[i]? = some x) : xs.take (i + 1) = xs.take i ++ [x] := by
  rw [List.take_add_one, e]
  rfl
theorem grow_len (ps : List Nat) : ∀ (rows : List (List Nat)) (k : Nat), (∀ r ∈ rows, r.length ≤ k) → (ps.foldl grow rows).length = rows.length * 2 ^ ps.length ∧ ∀ r ∈ ps.foldl grow rows, r.length ≤ k + ps.length := by
  induction ps with
  | nil => exact fun rows k hr => ⟨by simp, hr⟩
  | cons p ps ih =>
    intro rows k hr
    obtain ⟨h1, h2⟩ := ih (grow rows p) (k + 1) (fun r hr' => by
      rcases List.mem_append.mp hr' with hr' | hr'
      · have := hr r hr'; omega
      · obtain ⟨q, hq, rfl⟩ := List.mem_map.mp hr'
        have := hr q hq
        rw [List.length_append, List.length_singleton]
        omega)
    refine ⟨?_, fun r hr' => by have := h2 r hr'; rw [List.length_cons]; omega⟩
    show (ps.foldl grow (grow rows p)).length = _
    rw [h1, List.length_cons, Nat.pow_succ]
    unfold grow
    rw [List.length_append, List.length_map, ← Nat.two_mul, Nat.mul_comm 2, Nat.mul_assoc, Nat.mul_comm 2]
theorem subsF_len (ps : List Nat) : (subsF ps).length = 2 ^ ps.length ∧ ∀ r ∈ subsF ps, r.length ≤ ps.length := by
  obtain ⟨h1, h2⟩ := grow_len ps [[]] 0 (fun r hr => by rw [List.mem_singleton.mp hr]; exact Nat.le_refl _)
  exact ⟨by rw [subsF, h1, List.length_singleton, Nat.one_mul], fun r hr => by have := h2 r hr; omega⟩
theorem inner_ok {x0 x4 : Option D} {rows : List (List Nat)} {p : Nat} (hl : rows.length ≤ 1000) (hr : ∀ r ∈ rows, r.length ≤ 1000) : ∃ x4', forD (fun _ => True) (.nm 4) (exB (cn T n) Linner) (rows.map dS) [x0, some (.lst (rows.map dS)), some (dN p), some (.ref h.length), x4] (h ++ [.lst []]) =
    some (.nx, [x0, some (.lst (rows.map dS)), some (dN p), some (.ref h.length), x4'], h ++ [.lst ((rows.map (· ++ [p])).map dS)]) := by
  obtain ⟨se', h', e1, x4', e2, e3⟩ := forD_run (st := fun _ => True) (tg := .nm 4) (b := exB (cn T n) Linner) (xs := rows.map dS)
    (fun i se h' => ∃ x4' : Option D, se = [x0, some (.lst (rows.map dS)), some (dN p), some (.ref h.length), x4'] ∧ h' = h ++ [.lst (((rows.take i).map (· ++ [p])).map dS)])
    (se := [x0, some (.lst (rows.map dS)), some (dN p), some (.ref h.length), x4]) (h := h ++ [.lst []]) ⟨x4, rfl, rfl⟩ (fun _ _ _ _ => trivial) (by
      rintro i x se h' ex ⟨x4, rfl, rfl⟩
      rw [List.getElem?_map] at ex
      obtain ⟨r, er, rfl⟩ := Option.map_eq_some_iff.mp ex
      have hi := (List.getElem?_eq_some_iff.mp er).1
      have hm := hr r (List.mem_of_getElem? er)
      refine ⟨[x0, some (.lst (rows.map dS)), some (dN p), some (.ref h.length), some (dS r)], [x0, some (.lst (rows.map dS)), some (dN p), some (.ref h.length), some (dS r)], h ++ [.lst (((rows.take (i + 1)).map (· ++ [p])).map dS)], rfl, ?_, _, rfl, rfl⟩
      have hz : ((((rows.take i).map (· ++ [p])).map dS).length < sizeLine) = True := eq_true (by
        rw [List.length_map, List.length_map, List.length_take]
        have := sz_le (show i + 1 ≤ 1000000 by omega)
        omega)
      have hz2 : ((dNs r).length + 1 ≤ sizeLine) = True := eq_true (by
        unfold dNs
        rw [List.length_map]
        exact sz_le (by omega))
      have p0 : (h ++ [O.lst (((rows.take i).map (· ++ [p])).map dS)])[h.length]? = some (.lst (((rows.take i).map (· ++ [p])).map dS)) := by rw [getA0]; rfl
      have e5 : (((rows.take (i + 1)).map (· ++ [p])).map dS) = (((rows.take i).map (· ++ [p])).map dS) ++ [.tup (dNs r ++ [dN p])] := by
        rw [take_snoc er, List.map_append, List.map_append]
        show _ ++ [D.tup (dNs (r ++ [p]))] = _
        unfold dNs
        rw [List.map_append]
        rfl
      rw [e5]
      simp only [Linner, exB, exS, ev, evA, evO, evT, evC, evI_seq, evF_disp, evF_lst, evF_slk, evF_cat, cn_cf, startD, bltD, lenD, Cr.intD, tupleD, sumD, anyD, allD, absD, minD, maxD, gcdD, binD, cmpD, truD, idxD, isiD, mthD, isN, List.map_cons, List.map_nil, List.length_cons, List.length_nil, Option.bind_some, Option.map_some, List.set_cons_zero, List.set_cons_succ, List.getElem?_cons_zero, List.getElem?_cons_succ, List.replicate, List.cons_append, List.nil_append, List.append_nil, Nat.zero_add, Nat.add_one_sub_one, Nat.sub_self, putT, putS, if_true, and_self, sz0, sz1, sz2, sz3, sz5, sz6, wipeD, Nat.reduceAdd, Nat.reduceSub, dS, lstOf, p0, appendD, hz, hz2, setA0])
  subst e2 e3
  refine ⟨x4', ?_⟩
  rw [List.length_map, List.take_length] at e1
  exact e1
theorem subsets_ok {f : Nat} (H : Has T f Bsubsets 1 5 true) {ps : List Nat} (hp : ps.length ≤ 5) : call T (n + 1) f [dS ps] h = some (.lst ((subsF ps).map dS), h) := by
  obtain ⟨se', h', e1, x2, x3, x4, ex, e2, e3⟩ := forD_run (st := fun _ => True) (tg := .nm 2) (b := exB (cn T n) Louter) (xs := dNs ps)
    (fun i se h' => ∃ (x2 x3 x4 : Option D) (ex : Hs), se = [some (dS ps), some (.lst ((subsF (ps.take i)).map dS)), x2, x3, x4] ∧ h' = h ++ ex)
    (se := [some (dS ps), some (.lst ((subsF (ps.take 0)).map dS)), none, none, none]) (h := h) ⟨none, none, none, [], rfl, (List.append_nil h).symm⟩ (fun _ _ _ _ => trivial) (by
      rintro i x se h' ex ⟨x2, x3, x4, ext, rfl, rfl⟩
      unfold dNs at ex
      rw [List.getElem?_map] at ex
      obtain ⟨p, er, rfl⟩ := Option.map_eq_some_iff.mp ex
      have hi := (List.getElem?_eq_some_iff.mp er).1
      have hl := subsF_len (ps.take i)
      have h2 : 2 ^ (ps.take i).length ≤ 2 ^ 5 := Nat.pow_le_pow_right (by decide) (by rw [List.length_take]; omega)
      have h3 : (ps.take i).length ≤ 5 := by rw [List.length_take]; omega
      obtain ⟨x4', ei⟩ := inner_ok (T := T) (n := n) (h := h ++ ext) (x0 := some (dS ps)) (x4 := x4) (rows := subsF (ps.take i)) (p := p) (by rw [hl.1]; omega) (fun r hr => by have := hl.2 r hr; omega)
      refine ⟨[some (dS ps), some (.lst ((subsF (ps.take i)).map dS)), some (dN p), x3, x4], [some (dS ps), some (.lst ((subsF (ps.take (i + 1))).map dS)), some (dN p), some (.ref (h ++ ext).length), x4'], h ++ (ext ++ [.lst (((subsF (ps.take i)).map (· ++ [p])).map dS)]), rfl, ?_, _, _, _, _, rfl, rfl⟩
      rw [take_snoc er, subsF_snoc, ← List.append_assoc]
      generalize subsF (ps.take i) = rows at hl ei
      generalize h ++ ext = g at ei
      rw [Louter, exB_cons (se1 := [some (dS ps), some (.lst (rows.map dS)), some (dN p), some (.ref g.length), x4]) (h1 := g ++ [.lst []]) (by simp only [exS, ev, evA, evO, evT, evC, evI_seq, evF_disp, evF_lst, evF_slk, evF_cat, cn_cf, startD, bltD, lenD, Cr.intD, tupleD, sumD, anyD, allD, absD, minD, maxD, gcdD, binD, cmpD, truD, idxD, isiD, mthD, isN, List.map_cons, List.map_nil, List.length_cons, List.length_nil, Option.bind_some, Option.map_some, List.set_cons_zero, List.set_cons_succ, List.getElem?_cons_zero, List.getElem?_cons_succ, List.replicate, List.cons_append, List.nil_append, List.append_nil, Nat.zero_add, Nat.add_one_sub_one, Nat.sub_self, putT, putS, if_true, and_self, sz0, sz1, sz2, sz3, sz5, sz6, wipeD, Nat.reduceAdd, Nat.reduceSub])]
      rw [exB_cons (se1 := [some (dS ps), some (.lst (rows.map dS)), some (dN p), some (.ref g.length), x4']) (h1 := g ++ [.lst ((rows.map (· ++ [p])).map dS)]) (by
        rw [exS_for (p := ⟨rows.map dS, fun _ => True⟩) (h1 := g ++ [.lst []]) (by simp only [exS, ev, evA, evO, evT, evC, evI_seq, evF_disp, evF_lst, evF_slk, evF_cat, cn_cf, startD, bltD, lenD, Cr.intD, tupleD, sumD, anyD, allD, absD, minD, maxD, gcdD, binD, cmpD, truD, idxD, isiD, mthD, isN, List.map_cons, List.map_nil, List.length_cons, List.length_nil, Option.bind_some, Option.map_some, List.set_cons_zero, List.set_cons_succ, List.getElem?_cons_zero, List.getElem?_cons_succ, List.replicate, List.cons_append, List.nil_append, List.append_nil, Nat.zero_add, Nat.add_one_sub_one, Nat.sub_self, putT, putS, if_true, and_self, sz0, sz1, sz2, sz3, sz5, sz6, wipeD, Nat.reduceAdd, Nat.reduceSub])]
        exact ei)]
      have hz : ((rows.map dS).length + ((rows.map (· ++ [p])).map dS).length ≤ sizeLine) = True := eq_true (by
        rw [List.length_map, List.length_map, List.length_map, hl.1]
        exact sz_le (by omega))
      have p0 : (g ++ [O.lst ((rows.map (· ++ [p])).map dS)])[g.length]? = some (.lst ((rows.map (· ++ [p])).map dS)) := by rw [getA0]; rfl
      unfold grow
      rw [List.map_append]
      simp only [exB, exS, ev, evA, evO, evT, evC, evI_seq, evF_disp, evF_lst, evF_slk, evF_cat, cn_cf, startD, bltD, lenD, Cr.intD, tupleD, sumD, anyD, allD, absD, minD, maxD, gcdD, binD, cmpD, truD, idxD, isiD, mthD, isN, List.map_cons, List.map_nil, List.length_cons, List.length_nil, Option.bind_some, Option.map_some, List.set_cons_zero, List.set_cons_succ, List.getElem?_cons_zero, List.getElem?_cons_succ, List.replicate, List.cons_append, List.nil_append, List.append_nil, Nat.zero_add, Nat.add_one_sub_one, Nat.sub_self, putT, putS, if_true, and_self, sz0, sz1, sz2, sz3, sz5, sz6, wipeD, Nat.reduceAdd, Nat.reduceSub, res, p0, hz])
  subst e2 e3
  unfold dNs at e1
  rw [List.length_map, List.take_length] at e1
  refine H.rt rfl ⟨[some (dS ps), some (.lst ((subsF ps).map dS)), x2, x3, x4], ?_⟩ (leave_pure (ex := ex) (pure_sets _))
  unfold Bsubsets
  rw [exB_cons (se1 := [some (dS ps), some (.lst ((subsF (ps.take 0)).map dS)), none, none, none]) (h1 := h) (by
    simp only [exS, ev, evA, evO, evT, evC, evI_seq, evF_disp, evF_lst, evF_slk, evF_cat, cn_cf, startD, bltD, lenD, Cr.intD, tupleD, sumD, anyD, allD, absD, minD, maxD, gcdD, binD, cmpD, truD, idxD, isiD, mthD, isN, List.map_cons, List.map_nil, List.length_cons, List.length_nil, Option.bind_some, Option.map_some, List.set_cons_zero, List.set_cons_succ, List.getElem?_cons_zero, List.getElem?_cons_succ, List.replicate, List.cons_append, List.nil_append, List.append_nil, Nat.zero_add, Nat.add_one_sub_one, Nat.sub_self, putT, putS, if_true, and_self, sz0, sz1, sz2, sz3, sz5, sz6, wipeD, Nat.reduceAdd, Nat.reduceSub]
    rfl)]
  rw [exB_cons (se1 := [some (dS ps), some (.lst ((subsF ps).map dS)), x2, x3, x4]) (h1 := h ++ ex) (by
    rw [exS_for (p := ⟨dNs ps, fun _ => True⟩) (h1 := h) (by simp only [exS, ev, evA, evO, evT, evC, evI_seq, evF_disp, evF_lst, evF_slk, evF_cat, cn_cf, startD, bltD, lenD, Cr.intD, tupleD, sumD, anyD, allD, absD, minD, maxD, gcdD, binD, cmpD, truD, idxD, isiD, mthD, isN, List.map_cons, List.map_nil, List.length_cons, List.length_nil, Option.bind_some, Option.map_some, List.set_cons_zero, List.set_cons_succ, List.getElem?_cons_zero, List.getElem?_cons_succ, List.replicate, List.cons_append, List.nil_append, List.append_nil, Nat.zero_add, Nat.add_one_sub_one, Nat.sub_self, putT, putS, if_true, and_self, sz0, sz1, sz2, sz3, sz5, sz6, wipeD, Nat.reduceAdd, Nat.reduceSub, dS])]
    exact e1)]
  refine exB_rt ?_
  simp only [exS, ev, evA, evO, evT, evC, evI_seq, evF_disp, evF_lst, evF_slk, evF_cat, cn_cf, startD, bltD, lenD, Cr.intD, tupleD, sumD, anyD, allD, absD, minD, maxD, gcdD, binD, cmpD, truD, idxD, isiD, mthD, isN, List.map_cons, List.map_nil, List.length_cons, List.length_nil, Option.bind_some, Option.map_some, List.set_cons_zero, List.set_cons_succ, List.getElem?_cons_zero, List.getElem?_cons_succ, List.replicate, List.cons_append, List.nil_append, List.append_nil, Nat.zero_add, Nat.add_one_sub_one, Nat.sub_self, putT, putS, if_true, and_self, sz0, sz1, sz2, sz3, sz5, sz6, wipeD, Nat.reduceAdd, Nat.reduceSub]

/-! ### _law_gcd -/
def Lgcd : CB := (.cons (.ife (.cmp .Eq (.var 1) (.cst (.int 0))) (.cons (.brk) .nil) .nil) (.cons (.set 3 (.bin .Mod (.blt .int (.cons (.var 0) .nil)) (.var 1))) (.cons (.set 0 (.var 1)) (.cons (.set 1 (.var 3)) .nil))))
def Bgcd : CB := (.cons (.for_ (.nm 2) (.rng1 (.cst (.int 4000))) Lgcd) (.cons (.ret (.var 0)) .nil))
theorem eqD_int {i j : Int} : eqD h (.int i) (.int j) = some (i == j) := rfl
theorem gcd_ok {f : Nat} (H : Has T f Bgcd 2 4 true) {a b : Nat} (hb : b < 2 ^ 100) : call T (n + 1) f [dN a, dN b] h = some (dN (Nat.gcd a b), h) := by
  obtain ⟨⟨r1, se', h'⟩, e1, e2, x1, x2, x3, e3, e4⟩ := forD_gen (st := fun _ => True) (tg := .nm 2) (b := exB (cn T n) Lgcd) (xs := (List.range 4000).map fun (k : Nat) => D.int (0 + (k : Int)))
    (fun r => r.1 = .nx ∧ ∃ x1 x2 x3 : Option D, r.2.1 = [some (dN (Nat.gcd a b)), x1, x2, x3] ∧ r.2.2 = h)
    (fun i se h' => ∃ (a' b' : Nat) (x2 x3 : Option D), se = [some (dN a'), some (dN b'), x2, x3] ∧ h' = h ∧ Nat.gcd a' b' = Nat.gcd a b ∧ (i = 0 → a' = a ∧ b' = b) ∧ (0 < i → b' < a' ∧ a' * b' * 2 ^ (i - 1) ≤ b * b))
    (se := [some (dN a), some (dN b), none, none]) (h := h) ⟨a, b, none, none, rfl, rfl, rfl, fun _ => ⟨rfl, rfl⟩, fun z => absurd z (Nat.lt_irrefl 0)⟩ (fun _ _ _ _ => trivial) (by
      rintro i x se h' ex ⟨a', b', x2, x3, rfl, rfl, hg, h0, h1⟩
      by_cases hz : b' = 0
      · subst hz
        refine ⟨[some (dN a'), some (dN 0), some x, x3], (.bk, [some (dN a'), some (dN 0), some x, x3], h'), rfl, ?_, rfl, some (dN 0), some x, x3, ?_, rfl⟩
        · simp only [Lgcd, exB, exS, ev, evA, evO, evT, evC, evI_seq, evF_disp, evF_lst, evF_slk, evF_cat, cn_cf, startD, bltD, lenD, Cr.intD, tupleD, sumD, anyD, allD, absD, minD, maxD, gcdD, binD, cmpD, truD, idxD, isiD, mthD, isN, List.map_cons, List.map_nil, List.length_cons, List.length_nil, Option.bind_some, Option.map_some, List.set_cons_zero, List.set_cons_succ, List.getElem?_cons_zero, List.getElem?_cons_succ, List.replicate, List.cons_append, List.nil_append, List.append_nil, Nat.zero_add, Nat.add_one_sub_one, Nat.sub_self, putT, putS, if_true, and_self, sz0, sz1, sz2, sz3, sz5, sz6, wipeD, Nat.reduceAdd, Nat.reduceSub, dN, eqD_int]
          rfl
        · show [some (dN a'), some (dN 0), some x, x3] = _
          rw [← hg, Nat.gcd_zero_right]
      · have hp : ((0 : Int) < (b' : Int)) = True := eq_true (by omega)
        have hq : ((b' : Int) == 0) = false := by
          rw [beq_eq_false_iff_ne]
          omega
        have em : ((a' : Int) % (b' : Int)) = ((a' % b' : Nat) : Int) := (Int.natCast_emod a' b').symm
        refine ⟨[some (dN a'), some (dN b'), some x, x3], (.nx, [some (dN b'), some (dN (a' % b')), some x, some (dN (a' % b'))], h'), rfl, ?_, b', a' % b', _, _, rfl, rfl, ?_, fun z => absurd z (Nat.succ_ne_zero i), fun _ => ⟨Nat.mod_lt _ (by omega), ?_⟩⟩
        · simp only [Lgcd, exB, exS, ev, evA, evO, evT, evC, evI_seq, evF_disp, evF_lst, evF_slk, evF_cat, cn_cf, startD, bltD, lenD, Cr.intD, tupleD, sumD, anyD, allD, absD, minD, maxD, gcdD, binD, cmpD, truD, idxD, isiD, mthD, isN, List.map_cons, List.map_nil, List.length_cons, List.length_nil, Option.bind_some, Option.map_some, List.set_cons_zero, List.set_cons_succ, List.getElem?_cons_zero, List.getElem?_cons_succ, List.replicate, List.cons_append, List.nil_append, List.append_nil, Nat.zero_add, Nat.add_one_sub_one, Nat.sub_self, putT, putS, if_true, and_self, sz0, sz1, sz2, sz3, sz5, sz6, wipeD, Nat.reduceAdd, Nat.reduceSub, dN, eqD_int, hq, hp, em]
        · rw [← hg, Nat.gcd_comm a' b', Nat.gcd_rec b' a', Nat.gcd_comm]
        · show b' * (a' % b') * 2 ^ (i + 1 - 1) ≤ b * b
          rw [Nat.add_sub_cancel]
          have hm : a' % b' < b' := Nat.mod_lt _ (by omega)
          by_cases hi : i = 0
          · obtain ⟨ea, eb⟩ := h0 hi
            subst hi eb
            rw [Nat.pow_zero, Nat.mul_one]
            exact Nat.mul_le_mul_left _ (Nat.le_of_lt hm)
          · obtain ⟨hlt, hle⟩ := h1 (by omega)
            refine Nat.le_trans ?_ hle
            have e5 : 2 ^ i = 2 * 2 ^ (i - 1) := by
              rw [← Nat.pow_succ']
              congr 1
              omega
            rw [e5, ← Nat.mul_assoc]
            refine Nat.mul_le_mul_right _ ?_
            have h2 : 2 * (a' % b') ≤ a' := by
              have h3 := Nat.div_add_mod a' b'
              have h4 : 1 ≤ a' / b' := Nat.div_pos (Nat.le_of_lt hlt) (by omega)
              have h5 : b' * 1 ≤ b' * (a' / b') := Nat.mul_le_mul_left _ h4
              omega
            have h6 : b' * (a' % b') * 2 = b' * (2 * (a' % b')) := by rw [Nat.mul_assoc, Nat.mul_comm (a' % b') 2]
            rw [h6, Nat.mul_comm a' b']
            exact Nat.mul_le_mul_left _ h2) (by
      rintro se h' ⟨a', b', x2, x3, rfl, rfl, hg, h0, h1⟩
      rw [List.length_map, List.length_range] at h0 h1
      obtain ⟨hlt, hle⟩ := h1 (by decide)
      have hz : b' = 0 := by
        by_cases hz : b' = 0
        · exact hz
        · exfalso
          have h2 : 1 ≤ a' * b' := Nat.mul_pos (by omega) (by omega)
          have h3 : 1 * 2 ^ 3999 ≤ a' * b' * 2 ^ 3999 := Nat.mul_le_mul_right _ h2
          have h4 : b * b < 2 ^ 100 * 2 ^ 100 := Nat.mul_lt_mul'' hb hb
          have h5 : 2 ^ 100 * 2 ^ 100 ≤ 1 * 2 ^ 3999 := by decide +kernel
          exact absurd (Nat.le_trans h3 hle) (Nat.not_le.mpr (Nat.lt_of_lt_of_le h4 h5))
      subst hz
      exact ⟨rfl, some (dN 0), x2, x3, by rw [← hg, Nat.gcd_zero_right], rfl⟩)
  have e2 : r1 = .nx := e2
  have e3 : se' = [some (dN (Nat.gcd a b)), x1, x2, x3] := e3
  have e4 : h' = h := e4
  subst e2 e3 e4
  refine H.rt rfl ⟨[some (dN (Nat.gcd a b)), x1, x2, x3], ?_⟩ (leave_same rfl)
  unfold Bgcd
  rw [exB_cons (se1 := [some (dN (Nat.gcd a b)), x1, x2, x3]) (h1 := h') (by
    rw [exS_for (evI_rngN (m := 4000) (h1 := h') (by decide) (by simp only [exS, ev, evA, evO, evT, evC, evI_seq, evF_disp, evF_lst, evF_slk, evF_cat, cn_cf, startD, bltD, lenD, Cr.intD, tupleD, sumD, anyD, allD, absD, minD, maxD, gcdD, binD, cmpD, truD, idxD, isiD, mthD, isN, List.map_cons, List.map_nil, List.length_cons, List.length_nil, Option.bind_some, Option.map_some, List.set_cons_zero, List.set_cons_succ, List.getElem?_cons_zero, List.getElem?_cons_succ, List.replicate, List.cons_append, List.nil_append, List.append_nil, Nat.zero_add, Nat.add_one_sub_one, Nat.sub_self, putT, putS, if_true, and_self, sz0, sz1, sz2, sz3, sz5, sz6, wipeD, Nat.reduceAdd, Nat.reduceSub, dN]; rfl))]
    exact e1)]
  refine exB_rt ?_
  simp only [exS, ev, evA, evO, evT, evC, evI_seq, evF_disp, evF_lst, evF_slk, evF_cat, cn_cf, startD, bltD, lenD, Cr.intD, tupleD, sumD, anyD, allD, absD, minD, maxD, gcdD, binD, cmpD, truD, idxD, isiD, mthD, isN, List.map_cons, List.map_nil, List.length_cons, List.length_nil, Option.bind_some, Option.map_some, List.set_cons_zero, List.set_cons_succ, List.getElem?_cons_zero, List.getElem?_cons_succ, List.replicate, List.cons_append, List.nil_append, List.append_nil, Nat.zero_add, Nat.add_one_sub_one, Nat.sub_self, putT, putS, if_true, and_self, sz0, sz1, sz2, sz3, sz5, sz6, wipeD, Nat.reduceAdd, Nat.reduceSub]
end
end Cr
/-! Law functions 4: fractions, chance. -/
namespace Cr
open PySem PySem.Spec PyProof.Rows L2
/-- a fraction, a node -/
def dP (x : Nat × Nat) : D := .tup [dN x.1, dN x.2]
def dT (x : Nat × Nat × Nat) : D := .tup [dN x.1, dN x.2.1, dN x.2.2]
def lowP (a b : Nat) : Nat × Nat := (a / Nat.gcd a b, b / Nat.gcd a b)
def plusP (x y : Nat × Nat) : Nat × Nat := lowP (x.1 * y.2 + y.1 * x.2) (x.2 * y.2)
def timesP (x y : Nat × Nat) : Nat × Nat := lowP (x.1 * y.1) (x.2 * y.2)
theorem at0 {α : Type} {x : α} {xs : List α} : atI (x :: xs) 0 = some x := atI_nat (j := 0) rfl
theorem at1 {α : Type} {x y : α} {xs : List α} : atI (x :: y :: xs) 1 = some y := atI_nat (j := 1) rfl
theorem atN {α : Type} {xs : List α} {j : Nat} {x : α} (e : xs[j]? = some x) : atI xs (j : Int) = some x := atI_nat e
theorem small_log {g : Nat} (h0 : 0 < g) (h : g < 2 ^ 1000) : ((0 : Int) < (g : Int) ∧ (g : Int).natAbs.log2 < 9000) = True := by
  refine eq_true ⟨by omega, ?_⟩
  rw [Int.natAbs_natCast]
  exact Nat.lt_of_lt_of_le ((Nat.log2_lt (by omega)).mpr h) (by decide)
theorem mulN {i j : Nat} {P : Prop} (h : j < 2 ^ 64) : ((i : Int).natAbs < 2 ^ 64 ∨ (j : Int).natAbs < 2 ^ 64 ∨ P) = True := eq_true (.inr (.inl (by rw [Int.natAbs_natCast]; exact h)))
section
variable {T : Tb} {n : Nat} {h : Hs}
def Blowest : CB := (.cons (.set 2 (.blt .gcd (.cons (.var 0) (.cons (.var 1) .nil)))) (.cons (.ret (.tup (.cons (.bin .FloorDiv (.var 0) (.var 2)) (.cons (.bin .FloorDiv (.var 1) (.var 2)) .nil)))) .nil))
theorem lowest_ok {f a b : Nat} (H : Has T f Blowest 2 3 true) (hb : 0 < b) (hs : b < 2 ^ 1000) : call T (n + 1) f [dN a, dN b] h = some (dP (lowP a b), h) := by
  have g1 : 0 < Nat.gcd a b := Nat.gcd_pos_of_pos_right a hb
  have g2 : Nat.gcd a b < 2 ^ 1000 := Nat.lt_of_le_of_lt (Nat.gcd_le_right a hb) hs
  refine H.rt rfl ⟨[some (dN a), some (dN b), some (dN (Nat.gcd a b))], ?_⟩ (leave_same rfl)
  unfold Blowest
  rw [exB_cons (se1 := [some (dN a), some (dN b), some (dN (Nat.gcd a b))]) (h1 := h) (by simp only [exS, ev, evA, evO, evT, evC, evI_seq, evF_disp, evF_lst, evF_slk, evF_cat, cn_cf, startD, bltD, lenD, Cr.intD, tupleD, sumD, anyD, allD, absD, minD, maxD, gcdD, binD, cmpD, truD, idxD, isiD, mthD, isN, List.map_cons, List.map_nil, List.length_cons, List.length_nil, Option.bind_some, Option.map_some, List.set_cons_zero, List.set_cons_succ, List.getElem?_cons_zero, List.getElem?_cons_succ, List.replicate, List.cons_append, List.nil_append, List.append_nil, Nat.zero_add, Nat.add_one_sub_one, Nat.sub_self, putT, putS, if_true, and_self, sz0, sz1, sz2, sz3, sz5, sz6, wipeD, Nat.reduceAdd, Nat.reduceSub, dN, Int.natAbs_natCast])]
  refine exB_rt ?_
  simp only [exS, ev, evA, evO, evT, evC, evI_seq, evF_disp, evF_lst, evF_slk, evF_cat, cn_cf, startD, bltD, lenD, Cr.intD, tupleD, sumD, anyD, allD, absD, minD, maxD, gcdD, binD, cmpD, truD, idxD, isiD, mthD, isN, List.map_cons, List.map_nil, List.length_cons, List.length_nil, Option.bind_some, Option.map_some, List.set_cons_zero, List.set_cons_succ, List.getElem?_cons_zero, List.getElem?_cons_succ, List.replicate, List.cons_append, List.nil_append, List.append_nil, Nat.zero_add, Nat.add_one_sub_one, Nat.sub_self, putT, putS, if_true, and_self, sz0, sz1, sz2, sz3, sz5, sz6, wipeD, Nat.reduceAdd, Nat.reduceSub, dN, small_log g1 g2]
  rfl
def Bplus (fl : Nat) : CB := (.cons (.ret (.call fl (.cons (.bin .Add (.bin .Mult (.idx (.var 0) (.cst (.int 0))) (.idx (.var 1) (.cst (.int 1)))) (.bin .Mult (.idx (.var 1) (.cst (.int 0))) (.idx (.var 0) (.cst (.int 1))))) (.cons (.bin .Mult (.idx (.var 0) (.cst (.int 1))) (.idx (.var 1) (.cst (.int 1)))) .nil)))) .nil)
def Btimes (fl : Nat) : CB := (.cons (.ret (.call fl (.cons (.bin .Mult (.idx (.var 0) (.cst (.int 0))) (.idx (.var 1) (.cst (.int 0)))) (.cons (.bin .Mult (.idx (.var 0) (.cst (.int 1))) (.idx (.var 1) (.cst (.int 1)))) .nil)))) .nil)
theorem pow_lt {a b : Nat} (ha : a < 2 ^ 64) (hb : b < 2 ^ 64) : a * b < 2 ^ 1000 := Nat.lt_of_lt_of_le (Nat.mul_lt_mul'' ha hb) (by decide +kernel)
theorem plus_ok {f fl : Nat} (H : Has T f (Bplus fl) 2 2 true) (H1 : Has T fl Blowest 2 3 true) {x y : Nat × Nat} (x2 : 0 < x.2) (y2 : 0 < y.2) (hx2 : x.2 < 2 ^ 64) (hy2 : y.2 < 2 ^ 64) : call T (n + 2) f [dP x, dP y] h = some (dP (plusP x y), h) := by
  have e := lowest_ok (n := n) (h := h) (a := x.1 * y.2 + y.1 * x.2) (b := x.2 * y.2) H1 (Nat.mul_pos x2 y2) (pow_lt hx2 hy2)
  have e : call T (n + 1) fl [.int ((x.1 : Int) * (y.2 : Int) + (y.1 : Int) * (x.2 : Int)), .int ((x.2 : Int) * (y.2 : Int))] h = some (dP (plusP x y), h) := by
    have e1 : dN (x.1 * y.2 + y.1 * x.2) = .int ((x.1 : Int) * (y.2 : Int) + (y.1 : Int) * (x.2 : Int)) := by unfold dN; rw [Int.natCast_add, Int.natCast_mul, Int.natCast_mul]
    have e2 : dN (x.2 * y.2) = .int ((x.2 : Int) * (y.2 : Int)) := by unfold dN; rw [Int.natCast_mul]
    rw [e1, e2] at e
    exact e
  refine H.rt rfl ⟨[some (dP x), some (dP y)], ?_⟩ (leave_same rfl)
  unfold Bplus
  refine exB_rt ?_
  simp only [exS, ev, evA, evO, evT, evC, evI_seq, evF_disp, evF_lst, evF_slk, evF_cat, cn_cf, startD, bltD, lenD, Cr.intD, tupleD, sumD, anyD, allD, absD, minD, maxD, gcdD, binD, cmpD, truD, idxD, isiD, mthD, isN, List.map_cons, List.map_nil, List.length_cons, List.length_nil, Option.bind_some, Option.map_some, List.set_cons_zero, List.set_cons_succ, List.getElem?_cons_zero, List.getElem?_cons_succ, List.replicate, List.cons_append, List.nil_append, List.append_nil, Nat.zero_add, Nat.add_one_sub_one, Nat.sub_self, putT, putS, if_true, and_self, sz0, sz1, sz2, sz3, sz5, sz6, wipeD, Nat.reduceAdd, Nat.reduceSub, dP, dN, at0, at1, mulN hy2, mulN hx2]
  rw [e]
  rfl
theorem times_ok {f fl : Nat} (H : Has T f (Btimes fl) 2 2 true) (H1 : Has T fl Blowest 2 3 true) {x y : Nat × Nat} (x2 : 0 < x.2) (y2 : 0 < y.2) (hx2 : x.2 < 2 ^ 64) (hy1 : y.1 < 2 ^ 64) (hy2 : y.2 < 2 ^ 64) : call T (n + 2) f [dP x, dP y] h = some (dP (timesP x y), h) := by
  have e := lowest_ok (n := n) (h := h) (a := x.1 * y.1) (b := x.2 * y.2) H1 (Nat.mul_pos x2 y2) (pow_lt hx2 hy2)
  have e : call T (n + 1) fl [.int ((x.1 : Int) * (y.1 : Int)), .int ((x.2 : Int) * (y.2 : Int))] h = some (dP (timesP x y), h) := by
    have e1 : dN (x.1 * y.1) = .int ((x.1 : Int) * (y.1 : Int)) := by unfold dN; rw [Int.natCast_mul]
    have e2 : dN (x.2 * y.2) = .int ((x.2 : Int) * (y.2 : Int)) := by unfold dN; rw [Int.natCast_mul]
    rw [e1, e2] at e
    exact e
  refine H.rt rfl ⟨[some (dP x), some (dP y)], ?_⟩ (leave_same rfl)
  unfold Btimes
  refine exB_rt ?_
  simp only [exS, ev, evA, evO, evT, evC, evI_seq, evF_disp, evF_lst, evF_slk, evF_cat, cn_cf, startD, bltD, lenD, Cr.intD, tupleD, sumD, anyD, allD, absD, minD, maxD, gcdD, binD, cmpD, truD, idxD, isiD, mthD, isN, List.map_cons, List.map_nil, List.length_cons, List.length_nil, Option.bind_some, Option.map_some, List.set_cons_zero, List.set_cons_succ, List.getElem?_cons_zero, List.getElem?_cons_succ, List.replicate, List.cons_append, List.nil_append, List.append_nil, Nat.zero_add, Nat.add_one_sub_one, Nat.sub_self, putT, putS, if_true, and_self, sz0, sz1, sz2, sz3, sz5, sz6, wipeD, Nat.reduceAdd, Nat.reduceSub, dP, dN, at0, at1, mulN hy2, mulN hy1]
  rw [e]
  rfl

/-! ### chance -/
def Lchance (fl fp ft : Nat) : CB := (.cons (.set 6 (.call ft (.cons (.call fl (.cons (.bin .Sub (.glb 0) (.idx (.var 1) (.var 3))) (.cons (.glb 0) .nil))) (.cons (.idx (.var 2) (.var 4)) .nil)))) (.cons (.exp (.mth .append (.var 2) (.cons (.call fp (.cons (.var 6) (.cons (.call ft (.cons (.call fl (.cons (.idx (.var 1) (.var 3)) (.cons (.glb 0) .nil))) (.cons (.idx (.var 2) (.var 5)) .nil))) .nil))) .nil))) .nil))
def Bchance (fl fp ft : Nat) : CB := (.cons (.set 2 (.bx (.disp (.cons (.tup (.cons (.cst (.int 0)) (.cons (.cst (.int 1)) .nil))) (.cons (.tup (.cons (.cst (.int 1)) (.cons (.cst (.int 1)) .nil))) .nil))))) (.cons (.for_ (.tp [3, 4, 5]) (.seq (.idx (.var 0) (.cst (.int 0)))) (Lchance fl fp ft)) (.cons (.ret (.idx (.var 2) (.idx (.var 0) (.cst (.int 1))))) .nil)))
/-- the fractions of the nodes -/
structure ValsOf (nodes : List (Nat × Nat × Nat)) (cs : List Nat) (vals : List (Nat × Nat)) : Prop where
  len : vals.length = nodes.length + 2
  v0 : vals[0]? = some (0, 1)
  v1 : vals[1]? = some (1, 1)
  cle : ∀ c ∈ cs, c ≤ 1000
  ok : ∀ v ∈ vals, 0 < v.2 ∧ v.1 < 2 ^ 50 ∧ v.2 < 2 ^ 50
  node : ∀ (j p w i : Nat), nodes[j]? = some (p, w, i) → w < j + 2 ∧ i < j + 2 ∧ ∃ c vw vi, cs[p]? = some c ∧ vals[w]? = some vw ∧ vals[i]? = some vi ∧ vals[j + 2]? = some (plusP (timesP (lowP (1000 - c) 1000) vw) (timesP (lowP c 1000) vi))
theorem lowP_le (a b : Nat) : (lowP a b).1 ≤ a ∧ (lowP a b).2 ≤ b := ⟨Nat.div_le_self _ _, Nat.div_le_self _ _⟩
theorem lowP_pos {a b : Nat} (hb : 0 < b) : 0 < (lowP a b).2 := Nat.div_pos (Nat.gcd_le_right a hb) (Nat.gcd_pos_of_pos_right a hb)
theorem times_b {c : Nat} {v : Nat × Nat} (h0 : 0 < v.2) (h1 : v.1 < 2 ^ 50) (h2 : v.2 < 2 ^ 50) (hc : c ≤ 1000) : 0 < (timesP (lowP c 1000) v).2 ∧ (timesP (lowP c 1000) v).1 < 2 ^ 64 ∧ (timesP (lowP c 1000) v).2 < 2 ^ 64 := by
  obtain ⟨l1, l2⟩ := lowP_le c 1000
  have l3 : 0 < (lowP c 1000).2 := lowP_pos (by decide)
  obtain ⟨m1, m2⟩ := lowP_le ((lowP c 1000).1 * v.1) ((lowP c 1000).2 * v.2)
  refine ⟨lowP_pos (Nat.mul_pos l3 h0), Nat.lt_of_le_of_lt m1 ?_, Nat.lt_of_le_of_lt m2 ?_⟩
  · have : (lowP c 1000).1 * v.1 ≤ 1000 * 2 ^ 50 := Nat.mul_le_mul (by omega) (Nat.le_of_lt h1)
    omega
  · have : (lowP c 1000).2 * v.2 ≤ 1000 * 2 ^ 50 := Nat.mul_le_mul (by omega) (Nat.le_of_lt h2)
    omega
theorem map_get {α β : Type} {f : α → β} {xs : List α} {j : Nat} {x : α} (e : xs[j]? = some x) : (xs.map f)[j]? = some (f x) := by rw [List.getElem?_map, e]; rfl
theorem take_get {α : Type} {xs : List α} {j k : Nat} {x : α} (h : j < k) (e : xs[j]? = some x) : (xs.take k)[j]? = some x := by rw [List.getElem?_take_of_lt h]; exact e
theorem chance_ok {f fl fp ft : Nat} (hG : (T.G[0]?).map (·.2) = some (.int 1000)) (H : Has T f (Bchance fl fp ft) 2 7 true) (Hl : Has T fl Blowest 2 3 true) (Hp : Has T fp (Bplus fl) 2 2 true) (Ht : Has T ft (Btimes fl) 2 2 true) {nodes : List (Nat × Nat × Nat)} {cs : List Nat} {vals : List (Nat × Nat)}
    (V : ValsOf nodes cs vals) {root : Nat} {v : Nat × Nat} (hr : vals[root]? = some v) (hn : nodes.length ≤ 1000) : call T (n + 3) f [.tup [.tup (nodes.map dT), dN root], dS cs] h = some (dP v, h) := by
  have hv2 : vals.take 2 = [(0, 1), (1, 1)] := by
    have := V.v0; have := V.v1
    cases vals with
    | nil => simp at *
    | cons a vals => cases vals with
      | nil => simp at *
      | cons b vals => simp at *; simp [*]
  obtain ⟨se', h', e1, x3, x4, x5, x6, e2, e3⟩ := forD_run (st := fun _ => True) (tg := .tp [3, 4, 5]) (b := exB (cn T (n + 2)) (Lchance fl fp ft)) (xs := nodes.map dT)
    (fun i se h' => ∃ (x3 x4 x5 x6 : Option D), se = [some (.tup [.tup (nodes.map dT), dN root]), some (dS cs), some (.ref h.length), x3, x4, x5, x6] ∧ h' = h ++ [.lst ((vals.take (i + 2)).map dP)])
    (se := [some (.tup [.tup (nodes.map dT), dN root]), some (dS cs), some (.ref h.length), none, none, none, none]) (h := h ++ [.lst ((vals.take 2).map dP)]) ⟨none, none, none, none, rfl, rfl⟩ (fun _ _ _ _ => trivial) (by
      rintro j x se h' ex ⟨x3, x4, x5, x6, rfl, rfl⟩
      rw [List.getElem?_map] at ex
      obtain ⟨⟨p, w, i⟩, er, rfl⟩ := Option.map_eq_some_iff.mp ex
      have hj := (List.getElem?_eq_some_iff.mp er).1
      obtain ⟨hw, hi, c, vw, vi, ec, ew, ei, en⟩ := V.node j p w i er
      have hc := V.cle c (List.mem_of_getElem? ec)
      obtain ⟨w1, w2, w3⟩ := V.ok vw (List.mem_of_getElem? ew)
      obtain ⟨i1, i2, i3⟩ := V.ok vi (List.mem_of_getElem? ei)
      obtain ⟨tw1, tw2, tw3⟩ := times_b (c := 1000 - c) w1 w2 w3 (by omega)
      obtain ⟨ti1, ti2, ti3⟩ := times_b (c := c) i1 i2 i3 hc
      have l1 := lowP_le (1000 - c) 1000
      have l2 := lowP_le c 1000
      have ea : atI (dNs cs) (p : Int) = some (.int (c : Int)) := atN (map_get ec)
      have eb : atI ((vals.take (j + 2)).map dP) (w : Int) = some (dP vw) := atN (map_get (take_get hw ew))
      have ed : atI ((vals.take (j + 2)).map dP) (i : Int) = some (dP vi) := atN (map_get (take_get hi ei))
      have e5 : (1000 : Int) - (c : Int) = ((1000 - c : Nat) : Int) := by omega
      have p0 : (h ++ [O.lst ((vals.take (j + 2)).map dP)])[h.length]? = some (.lst ((vals.take (j + 2)).map dP)) := by rw [getA0]; rfl
      have hz : ((((vals.take (j + 2)).map dP)).length < sizeLine) = True := eq_true (by
        rw [List.length_map, List.length_take]
        have := sz_le (show j + 3 ≤ 1000000 by omega)
        omega)
      have c1 : call T (n + 2) fl [.int ((1000 - c : Nat) : Int), .int 1000] (h ++ [O.lst ((vals.take (j + 2)).map dP)]) = some (dP (lowP (1000 - c) 1000), h ++ [O.lst ((vals.take (j + 2)).map dP)]) := lowest_ok (n := n + 1) (a := 1000 - c) (b := 1000) Hl (by decide) (by decide +kernel)
      have c2 : call T (n + 2) fl [.int (c : Int), .int 1000] (h ++ [O.lst ((vals.take (j + 2)).map dP)]) = some (dP (lowP c 1000), h ++ [O.lst ((vals.take (j + 2)).map dP)]) := lowest_ok (n := n + 1) (a := c) (b := 1000) Hl (by decide) (by decide +kernel)
      have c3 : call T (n + 2) ft [dP (lowP (1000 - c) 1000), dP vw] (h ++ [O.lst ((vals.take (j + 2)).map dP)]) = some (dP (timesP (lowP (1000 - c) 1000) vw), h ++ [O.lst ((vals.take (j + 2)).map dP)]) := times_ok (n := n) Ht Hl (lowP_pos (by decide)) w1 (by omega) (by omega) (by omega)
      have c4 : call T (n + 2) ft [dP (lowP c 1000), dP vi] (h ++ [O.lst ((vals.take (j + 2)).map dP)]) = some (dP (timesP (lowP c 1000) vi), h ++ [O.lst ((vals.take (j + 2)).map dP)]) := times_ok (n := n) Ht Hl (lowP_pos (by decide)) i1 (by omega) (by omega) (by omega)
      have c5 : call T (n + 2) fp [dP (timesP (lowP (1000 - c) 1000) vw), dP (timesP (lowP c 1000) vi)] (h ++ [O.lst ((vals.take (j + 2)).map dP)]) = some (dP (plusP (timesP (lowP (1000 - c) 1000) vw) (timesP (lowP c 1000) vi)), h ++ [O.lst ((vals.take (j + 2)).map dP)]) := plus_ok (n := n) Hp Hl tw1 ti1 tw3 ti3
      have e6 : (vals.take (j + 1 + 2)).map dP = (vals.take (j + 2)).map dP ++ [dP (plusP (timesP (lowP (1000 - c) 1000) vw) (timesP (lowP c 1000) vi))] := by
        rw [show j + 1 + 2 = j + 2 + 1 from rfl, take_snoc en, List.map_append]
        rfl
      refine ⟨[some (.tup [.tup (nodes.map dT), dN root]), some (dS cs), some (.ref h.length), some (dN p), some (dN w), some (dN i), x6], [some (.tup [.tup (nodes.map dT), dN root]), some (dS cs), some (.ref h.length), some (dN p), some (dN w), some (dN i), some (dP (timesP (lowP (1000 - c) 1000) vw))], h ++ [.lst ((vals.take (j + 1 + 2)).map dP)], rfl, ?_, _, _, _, _, rfl, rfl⟩
      rw [e6]
      unfold Lchance
      rw [exB_cons (se1 := [some (.tup [.tup (nodes.map dT), dN root]), some (dS cs), some (.ref h.length), some (dN p), some (dN w), some (dN i), some (dP (timesP (lowP (1000 - c) 1000) vw))]) (h1 := h ++ [O.lst ((vals.take (j + 2)).map dP)]) (by
        simp only [exS, ev, evA, evO, evT, evC, evI_seq, evF_disp, evF_lst, evF_slk, evF_cat, cn_cf, startD, bltD, lenD, Cr.intD, tupleD, sumD, anyD, allD, absD, minD, maxD, gcdD, binD, cmpD, truD, idxD, isiD, mthD, isN, List.map_cons, List.map_nil, List.length_cons, List.length_nil, Option.bind_some, Option.map_some, List.set_cons_zero, List.set_cons_succ, List.getElem?_cons_zero, List.getElem?_cons_succ, List.replicate, List.cons_append, List.nil_append, List.append_nil, Nat.zero_add, Nat.add_one_sub_one, Nat.sub_self, putT, putS, if_true, and_self, sz0, sz1, sz2, sz3, sz5, sz6, wipeD, Nat.reduceAdd, Nat.reduceSub, cn_G, hG, dS, dN, ea, p0, eb, e5, c1, c3])]
      simp only [exB, exS, ev, evA, evO, evT, evC, evI_seq, evF_disp, evF_lst, evF_slk, evF_cat, cn_cf, startD, bltD, lenD, Cr.intD, tupleD, sumD, anyD, allD, absD, minD, maxD, gcdD, binD, cmpD, truD, idxD, isiD, mthD, isN, List.map_cons, List.map_nil, List.length_cons, List.length_nil, Option.bind_some, Option.map_some, List.set_cons_zero, List.set_cons_succ, List.getElem?_cons_zero, List.getElem?_cons_succ, List.replicate, List.cons_append, List.nil_append, List.append_nil, Nat.zero_add, Nat.add_one_sub_one, Nat.sub_self, putT, putS, if_true, and_self, sz0, sz1, sz2, sz3, sz5, sz6, wipeD, Nat.reduceAdd, Nat.reduceSub, cn_G, hG, dS, dN, lstOf, ea, p0, ed, c2, c4, c5, appendD, hz, setA0])
  subst e2 e3
  rw [List.length_map, ← V.len, List.take_length] at e1
  have p0 : (h ++ [O.lst (vals.map dP)])[h.length]? = some (.lst (vals.map dP)) := by rw [getA0]; rfl
  have ev1 : atI (vals.map dP) (root : Int) = some (dP v) := atN (map_get hr)
  refine H.rt rfl ⟨[some (.tup [.tup (nodes.map dT), dN root]), some (dS cs), some (.ref h.length), x3, x4, x5, x6], ?_⟩ (leave_pure (ex := [O.lst (vals.map dP)]) rfl)
  unfold Bchance
  rw [exB_cons (se1 := [some (.tup [.tup (nodes.map dT), dN root]), some (dS cs), some (.ref h.length), none, none, none, none]) (h1 := h ++ [.lst ((vals.take 2).map dP)]) (by
    rw [hv2]
    simp only [exS, ev, evA, evO, evT, evC, evI_seq, evF_disp, evF_lst, evF_slk, evF_cat, cn_cf, startD, bltD, lenD, Cr.intD, tupleD, sumD, anyD, allD, absD, minD, maxD, gcdD, binD, cmpD, truD, idxD, isiD, mthD, isN, List.map_cons, List.map_nil, List.length_cons, List.length_nil, Option.bind_some, Option.map_some, List.set_cons_zero, List.set_cons_succ, List.getElem?_cons_zero, List.getElem?_cons_succ, List.replicate, List.cons_append, List.nil_append, List.append_nil, Nat.zero_add, Nat.add_one_sub_one, Nat.sub_self, putT, putS, if_true, and_self, sz0, sz1, sz2, sz3, sz5, sz6, wipeD, Nat.reduceAdd, Nat.reduceSub]
    rfl)]
  rw [exB_cons (se1 := [some (.tup [.tup (nodes.map dT), dN root]), some (dS cs), some (.ref h.length), x3, x4, x5, x6]) (h1 := h ++ [O.lst (vals.map dP)]) (by
    rw [exS_for (p := ⟨nodes.map dT, fun _ => True⟩) (h1 := h ++ [.lst ((vals.take 2).map dP)]) (by simp only [exS, ev, evA, evO, evT, evC, evI_seq, evF_disp, evF_lst, evF_slk, evF_cat, cn_cf, startD, bltD, lenD, Cr.intD, tupleD, sumD, anyD, allD, absD, minD, maxD, gcdD, binD, cmpD, truD, idxD, isiD, mthD, isN, List.map_cons, List.map_nil, List.length_cons, List.length_nil, Option.bind_some, Option.map_some, List.set_cons_zero, List.set_cons_succ, List.getElem?_cons_zero, List.getElem?_cons_succ, List.replicate, List.cons_append, List.nil_append, List.append_nil, Nat.zero_add, Nat.add_one_sub_one, Nat.sub_self, putT, putS, if_true, and_self, sz0, sz1, sz2, sz3, sz5, sz6, wipeD, Nat.reduceAdd, Nat.reduceSub, at0])]
    exact e1)]
  refine exB_rt ?_
  simp only [exS, ev, evA, evO, evT, evC, evI_seq, evF_disp, evF_lst, evF_slk, evF_cat, cn_cf, startD, bltD, lenD, Cr.intD, tupleD, sumD, anyD, allD, absD, minD, maxD, gcdD, binD, cmpD, truD, idxD, isiD, mthD, isN, List.map_cons, List.map_nil, List.length_cons, List.length_nil, Option.bind_some, Option.map_some, List.set_cons_zero, List.set_cons_succ, List.getElem?_cons_zero, List.getElem?_cons_succ, List.replicate, List.cons_append, List.nil_append, List.append_nil, Nat.zero_add, Nat.add_one_sub_one, Nat.sub_self, putT, putS, if_true, and_self, sz0, sz1, sz2, sz3, sz5, sz6, wipeD, Nat.reduceAdd, Nat.reduceSub, at1, dN, p0, ev1]
end
end Cr
/-! Law functions 5: is it the fraction; the weighted cases. -/
namespace Cr
open PySem PySem.Spec PyProof.Rows L2
section
variable {T : Tb} {n : Nat} {h : Hs}
def Bfraction (fn fg : Nat) : CB := (.cons (.ife (.or (.not (.tru (.isi (.var 0) .tuple))) (.cmp .NotEq (.blt .len (.cons (.var 0) .nil)) (.cst (.int 2)))) (.cons (.ret (.cst (.bl false))) .nil) .nil) (.cons (.ife (.or (.not (.tru (.call fn (.cons (.idx (.var 0) (.cst (.int 0))) .nil)))) (.or (.not (.tru (.call fn (.cons (.idx (.var 0) (.cst (.int 1))) .nil)))) (.cmp .Lt (.idx (.var 0) (.cst (.int 1))) (.cst (.int 1))))) (.cons (.ret (.cst (.bl false))) .nil) .nil) (.cons (.ife (.cmp .NotEq (.bin .Mult (.idx (.var 0) (.cst (.int 0))) (.var 2)) (.bin .Mult (.var 1) (.idx (.var 0) (.cst (.int 1))))) (.cons (.ret (.cst (.bl false))) .nil) .nil) (.cons (.ret (.cmp .Eq (.call fg (.cons (.blt .abs (.cons (.idx (.var 0) (.cst (.int 0))) .nil)) (.cons (.idx (.var 0) (.cst (.int 1))) .nil))) (.cst (.int 1)))) .nil))))
theorem fraction_ok {f fn fg : Nat} (H : Has T f (Bfraction fn fg) 3 3 true) (Hn : Has T fn Bnumber 1 1 true) (Hg : Has T fg Bgcd 2 4 true) {v : Nat × Nat} {num den : Nat} (h2 : 0 < v.2) (hb : v.2 < 2 ^ 64) (hg : Nat.gcd v.1 v.2 = 1) (he : v.1 * den = num * v.2) (hd : den < 2 ^ 64) :
    call T (n + 2) f [dP v, dN num, dN den] h = some (.bl true, h) := by
  have c1 : call T (n + 1) fn [.int (v.1 : Int)] h = some (.bl true, h) := number_ok Hn _
  have c2 : call T (n + 1) fn [.int (v.2 : Int)] h = some (.bl true, h) := number_ok Hn _
  have c3 : call T (n + 1) fg [.int (v.1 : Int), .int (v.2 : Int)] h = some (.int 1, h) := by
    have := gcd_ok (n := n) (h := h) (a := v.1) (b := v.2) Hg (Nat.lt_trans hb (by decide +kernel))
    rw [hg] at this
    exact this
  have q1 : decide ((v.2 : Int) < 1) = false := decide_eq_false (by omega)
  have q2 : eqD h (.int ((v.1 : Int) * (den : Int))) (.int ((num : Int) * (v.2 : Int))) = some true := by
    rw [eqD_int]
    congr 1
    rw [beq_iff_eq, ← Int.natCast_mul, ← Int.natCast_mul, he]
  have q3 : (if (v.1 : Int) < 0 then -(v.1 : Int) else (v.1 : Int)) = (v.1 : Int) := if_neg (by omega)
  have q4 : eqD h (.int 2) (.int 2) = some true := rfl
  have q5 : eqD h (.int 1) (.int 1) = some true := rfl
  refine H.rt rfl ⟨[some (dP v), some (dN num), some (dN den)], ?_⟩ (leave_same rfl)
  unfold Bfraction
  rw [exB_cons (se1 := [some (dP v), some (dN num), some (dN den)]) (h1 := h) (by
    simp only [exB, exS, ev, evA, evO, evT, evC, evI_seq, evF_disp, evF_lst, evF_slk, evF_cat, cn_cf, startD, bltD, lenD, Cr.intD, tupleD, sumD, anyD, allD, absD, minD, maxD, gcdD, binD, cmpD, truD, idxD, isiD, mthD, isN, List.map_cons, List.map_nil, List.length_cons, List.length_nil, Option.bind_some, Option.map_some, List.set_cons_zero, List.set_cons_succ, List.getElem?_cons_zero, List.getElem?_cons_succ, List.replicate, List.cons_append, List.nil_append, List.append_nil, Nat.zero_add, Nat.add_one_sub_one, Nat.sub_self, putT, putS, if_true, and_self, sz0, sz1, sz2, sz3, sz5, sz6, wipeD, Nat.reduceAdd, Nat.reduceSub, dP, seqOf, dN, Bool.not_true]
    rfl)]
  rw [exB_cons (se1 := [some (dP v), some (dN num), some (dN den)]) (h1 := h) (by
    simp only [exB, exS, ev, evA, evO, evT, evC, evI_seq, evF_disp, evF_lst, evF_slk, evF_cat, cn_cf, startD, bltD, lenD, Cr.intD, tupleD, sumD, anyD, allD, absD, minD, maxD, gcdD, binD, cmpD, truD, idxD, isiD, mthD, isN, List.map_cons, List.map_nil, List.length_cons, List.length_nil, Option.bind_some, Option.map_some, List.set_cons_zero, List.set_cons_succ, List.getElem?_cons_zero, List.getElem?_cons_succ, List.replicate, List.cons_append, List.nil_append, List.append_nil, Nat.zero_add, Nat.add_one_sub_one, Nat.sub_self, putT, putS, if_true, and_self, sz0, sz1, sz2, sz3, sz5, sz6, wipeD, Nat.reduceAdd, Nat.reduceSub, dP, dN, at0, at1, c1, c2, q1, Bool.not_true])]
  rw [exB_cons (se1 := [some (dP v), some (dN num), some (dN den)]) (h1 := h) (by
    simp only [exB, exS, ev, evA, evO, evT, evC, evI_seq, evF_disp, evF_lst, evF_slk, evF_cat, cn_cf, startD, bltD, lenD, Cr.intD, tupleD, sumD, anyD, allD, absD, minD, maxD, gcdD, binD, cmpD, truD, idxD, isiD, mthD, isN, List.map_cons, List.map_nil, List.length_cons, List.length_nil, Option.bind_some, Option.map_some, List.set_cons_zero, List.set_cons_succ, List.getElem?_cons_zero, List.getElem?_cons_succ, List.replicate, List.cons_append, List.nil_append, List.append_nil, Nat.zero_add, Nat.add_one_sub_one, Nat.sub_self, putT, putS, if_true, and_self, sz0, sz1, sz2, sz3, sz5, sz6, wipeD, Nat.reduceAdd, Nat.reduceSub, dP, dN, at0, at1, mulN hb, mulN hd, q2, Bool.not_true])]
  refine exB_rt ?_
  simp only [exS, ev, evA, evO, evT, evC, evI_seq, evF_disp, evF_lst, evF_slk, evF_cat, cn_cf, startD, bltD, lenD, Cr.intD, tupleD, sumD, anyD, allD, absD, minD, maxD, gcdD, binD, cmpD, truD, idxD, isiD, mthD, isN, List.map_cons, List.map_nil, List.length_cons, List.length_nil, Option.bind_some, Option.map_some, List.set_cons_zero, List.set_cons_succ, List.getElem?_cons_zero, List.getElem?_cons_succ, List.replicate, List.cons_append, List.nil_append, List.append_nil, Nat.zero_add, Nat.add_one_sub_one, Nat.sub_self, putT, putS, if_true, and_self, sz0, sz1, sz2, sz3, sz5, sz6, wipeD, Nat.reduceAdd, Nat.reduceSub, dP, dN, at0, at1, q3, c3, q5]

/-! ### _law_cases -/
def wtP (cs s : List Nat) : Nat → Nat
  | 0 => 1
  | k + 1 => wtP cs s k * (if k ∈ s then cs.getD k 0 else 1000 - cs.getD k 0)
def caseP (rows : List (List Nat)) (cs need s : List Nat) : Nat := if holdsB rows s && insideB need s then wtP cs s cs.length else 0
def casesP (rows : List (List Nat)) (cs need : List Nat) : Nat := ((subsF (List.range cs.length)).map (caseP rows cs need)).sum
def Lw : CB := (.cons (.ife (.cmp .In (.var 7) (.var 5)) (.cons (.set 6 (.bin .Mult (.var 6) (.idx (.var 1) (.var 7)))) .nil) (.cons (.set 6 (.bin .Mult (.var 6) (.bin .Sub (.cst (.int 1000)) (.idx (.var 1) (.var 7))))) .nil)) .nil)
def Lcases (fi fh : Nat) : CB := (.cons (.ife (.and (.cmp .Eq (.call fh (.cons (.var 0) (.cons (.var 5) .nil))) (.var 2)) (.tru (.call fi (.cons (.var 3) (.cons (.var 5) .nil))))) (.cons (.set 6 (.cst (.int 1))) (.cons (.for_ (.nm 7) (.rng1 (.blt .len (.cons (.var 1) .nil))) Lw) (.cons (.set 4 (.bin .Add (.var 4) (.var 6))) .nil))) .nil) .nil)
def Bcases (fs fi fh : Nat) : CB := (.cons (.set 4 (.cst (.int 0))) (.cons (.for_ (.nm 5) (.seq (.call fs (.cons (.blt .tuple (.cons (.pl (.lrg (.blt .len (.cons (.var 1) .nil)))) .nil)) .nil))) (Lcases fi fh)) (.cons (.ret (.var 4)) .nil)))
theorem weight_ok {x0 x2 x3 x4 x7 : Option D} {cs s : List Nat} (hc : ∀ c ∈ cs, c ≤ 1000) (hl : cs.length ≤ 1000) : ∃ x7' : Option D, exS (cn T n) (.for_ (.nm 7) (.rng1 (.blt .len (.cons (.var 1) .nil))) Lw) [x0, some (dS cs), x2, x3, x4, some (dS s), some (.int 1), x7] h =
    some (.nx, [x0, some (dS cs), x2, x3, x4, some (dS s), some (dN (wtP cs s cs.length)), x7'], h) := by
  obtain ⟨se', h', e1, x7', e2, e3⟩ := forD_run (st := fun _ => True) (tg := .nm 7) (b := exB (cn T n) Lw) (xs := (List.range cs.length).map fun (k : Nat) => D.int (0 + (k : Int)))
    (fun i se h' => ∃ x7' : Option D, se = [x0, some (dS cs), x2, x3, x4, some (dS s), some (dN (wtP cs s i)), x7'] ∧ h' = h)
    (se := [x0, some (dS cs), x2, x3, x4, some (dS s), some (.int 1), x7]) (h := h) ⟨x7, rfl, rfl⟩ (fun _ _ _ _ => trivial) (by
      rintro i x se h' ex ⟨x7, rfl, e⟩
      subst e
      obtain ⟨hi, rfl⟩ := rng_get ex
      have ec : cs[i]? = some cs[i] := List.getElem?_eq_getElem hi
      have eg : cs.getD i 0 = cs[i] := by rw [List.getD_eq_getElem?_getD, ec]; rfl
      have hci := hc cs[i] (List.getElem_mem hi)
      have ea : atI (dNs cs) (i : Int) = some (.int (cs[i] : Int)) := atN (map_get ec)
      have em : inD h' (.int (i : Int)) (.tup (dNs s)) = some (decide (i ∈ s)) := inD_tup
      by_cases hm : i ∈ s
      · refine ⟨[x0, some (dS cs), x2, x3, x4, some (dS s), some (dN (wtP cs s i)), some (dN i)], [x0, some (dS cs), x2, x3, x4, some (dS s), some (dN (wtP cs s (i + 1))), some (dN i)], h', rfl, ?_, _, rfl, rfl⟩
        have e5 : wtP cs s (i + 1) = wtP cs s i * cs[i] := by rw [wtP, if_pos hm, eg]
        have e6 : dN (wtP cs s i * cs[i]) = .int ((wtP cs s i : Int) * (cs[i] : Int)) := by unfold dN; rw [Int.natCast_mul]
        rw [e5, e6]
        simp only [Lw, exB, exS, ev, evA, evO, evT, evC, evI_seq, evF_disp, evF_lst, evF_slk, evF_cat, cn_cf, startD, bltD, lenD, Cr.intD, tupleD, sumD, anyD, allD, absD, minD, maxD, gcdD, binD, cmpD, truD, idxD, isiD, mthD, isN, List.map_cons, List.map_nil, List.length_cons, List.length_nil, Option.bind_some, Option.map_some, List.set_cons_zero, List.set_cons_succ, List.getElem?_cons_zero, List.getElem?_cons_succ, List.replicate, List.cons_append, List.nil_append, List.append_nil, Nat.zero_add, Nat.add_one_sub_one, Nat.sub_self, putT, putS, if_true, and_self, sz0, sz1, sz2, sz3, sz5, sz6, wipeD, Nat.reduceAdd, Nat.reduceSub, dS, dN, em, decide_eq_true hm, ea, mulN (j := cs[i]) (by omega)]
      · refine ⟨[x0, some (dS cs), x2, x3, x4, some (dS s), some (dN (wtP cs s i)), some (dN i)], [x0, some (dS cs), x2, x3, x4, some (dS s), some (dN (wtP cs s (i + 1))), some (dN i)], h', rfl, ?_, _, rfl, rfl⟩
        have e5 : wtP cs s (i + 1) = wtP cs s i * (1000 - cs[i]) := by rw [wtP, if_neg hm, eg]
        have e6 : dN (wtP cs s i * (1000 - cs[i])) = .int ((wtP cs s i : Int) * ((1000 - cs[i] : Nat) : Int)) := by unfold dN; rw [Int.natCast_mul]
        have e7 : (1000 : Int) - (cs[i] : Int) = ((1000 - cs[i] : Nat) : Int) := by omega
        rw [e5, e6]
        simp only [Lw, exB, exS, ev, evA, evO, evT, evC, evI_seq, evF_disp, evF_lst, evF_slk, evF_cat, cn_cf, startD, bltD, lenD, Cr.intD, tupleD, sumD, anyD, allD, absD, minD, maxD, gcdD, binD, cmpD, truD, idxD, isiD, mthD, isN, List.map_cons, List.map_nil, List.length_cons, List.length_nil, Option.bind_some, Option.map_some, List.set_cons_zero, List.set_cons_succ, List.getElem?_cons_zero, List.getElem?_cons_succ, List.replicate, List.cons_append, List.nil_append, List.append_nil, Nat.zero_add, Nat.add_one_sub_one, Nat.sub_self, putT, putS, if_true, and_self, sz0, sz1, sz2, sz3, sz5, sz6, wipeD, Nat.reduceAdd, Nat.reduceSub, dS, dN, em, decide_eq_false hm, ea, e7, mulN (j := 1000 - cs[i]) (by omega)])
  subst e2 e3
  rw [List.length_map, List.length_range] at e1
  refine ⟨x7', ?_⟩
  rw [exS_for (evI_rngN (m := cs.length) (h1 := h') (by omega) (by
    simp only [exS, ev, evA, evO, evT, evC, evI_seq, evF_disp, evF_lst, evF_slk, evF_cat, cn_cf, startD, bltD, lenD, Cr.intD, tupleD, sumD, anyD, allD, absD, minD, maxD, gcdD, binD, cmpD, truD, idxD, isiD, mthD, isN, List.map_cons, List.map_nil, List.length_cons, List.length_nil, Option.bind_some, Option.map_some, List.set_cons_zero, List.set_cons_succ, List.getElem?_cons_zero, List.getElem?_cons_succ, List.replicate, List.cons_append, List.nil_append, List.append_nil, Nat.zero_add, Nat.add_one_sub_one, Nat.sub_self, putT, putS, if_true, and_self, sz0, sz1, sz2, sz3, sz5, sz6, wipeD, Nat.reduceAdd, Nat.reduceSub, dS, seqOf, dNs, List.length_map]
    rfl))]
  exact e1
theorem sum_snoc (xs : List Nat) (x : Nat) : (xs ++ [x]).sum = xs.sum + x := by
  rw [List.sum_append]
  simp
theorem rng_dNs {m : Nat} : (List.range m).map (fun (k : Nat) => D.int (0 + (k : Int))) = dNs (List.range m) := by
  unfold dNs
  refine List.map_congr_left fun k _ => ?_
  unfold dN
  rw [Int.zero_add]
theorem lrg_len {x0 : Option D} {rest : S} {cs : List Nat} (hl : cs.length ≤ 1000) {c : Cn} : evF c (.lrg (.blt .len (.cons (.var 1) .nil))) (x0 :: some (dS cs) :: rest) h = some (dNs (List.range cs.length), h) := by
  have e0 : ev c (.blt .len (.cons (.var 1) .nil)) (x0 :: some (dS cs) :: rest) h = some (.int (cs.length : Int), h) := by
    simp only [exS, ev, evA, evO, evT, evC, evI_seq, evF_disp, evF_lst, evF_slk, evF_cat, cn_cf, startD, bltD, lenD, Cr.intD, tupleD, sumD, anyD, allD, absD, minD, maxD, gcdD, binD, cmpD, truD, idxD, isiD, mthD, isN, List.map_cons, List.map_nil, List.length_cons, List.length_nil, Option.bind_some, Option.map_some, List.set_cons_zero, List.set_cons_succ, List.getElem?_cons_zero, List.getElem?_cons_succ, List.replicate, List.cons_append, List.nil_append, List.append_nil, Nat.zero_add, Nat.add_one_sub_one, Nat.sub_self, putT, putS, if_true, and_self, sz0, sz1, sz2, sz3, sz5, sz6, wipeD, Nat.reduceAdd, Nat.reduceSub, dS, dNs, seqOf, List.length_map]
  have hj : -(2 ^ 62) ≤ (cs.length : Int) ∧ (cs.length : Int) ≤ 16777216 := ⟨by omega, by omega⟩
  rw [evF_lrg e0 hj, Int.toNat_natCast, rng_dNs]
theorem cases_loop {fi fh : Nat} (Hi : Has T fi Binside 2 3 true) (Hh : Has T fh (Bholds fi) 2 3 true) {rows : List (List Nat)} {cs need : List Nat} (hc : ∀ c ∈ cs, c ≤ 1000) (hl : cs.length ≤ 5)
    (hr : ∀ r ∈ rows, r.length ≤ 1000) (hrl : rows.length ≤ 1000) (hn : need.length ≤ 1000) : ∃ x5 x6 x7 : Option D, forD (fun _ => True) (.nm 5) (exB (cn T (n + 2)) (Lcases fi fh)) ((subsF (List.range cs.length)).map dS) [some (.lst (rows.map dS)), some (dS cs), some (.bl true), some (dS need), some (.int 0), none, none, none] h =
    some (.nx, [some (.lst (rows.map dS)), some (dS cs), some (.bl true), some (dS need), some (dN (casesP rows cs need)), x5, x6, x7], h) := by
  obtain ⟨se', h', e1, x5, x6, x7, e2, e3⟩ := forD_run (st := fun _ => True) (tg := .nm 5) (b := exB (cn T (n + 2)) (Lcases fi fh)) (xs := (subsF (List.range cs.length)).map dS)
    (fun i se h' => ∃ x5 x6 x7 : Option D, se = [some (.lst (rows.map dS)), some (dS cs), some (.bl true), some (dS need), some (dN (((subsF (List.range cs.length)).take i).map (caseP rows cs need)).sum), x5, x6, x7] ∧ h' = h)
    (se := [some (.lst (rows.map dS)), some (dS cs), some (.bl true), some (dS need), some (.int 0), none, none, none]) (h := h) ⟨none, none, none, rfl, rfl⟩ (fun _ _ _ _ => trivial) (by
      rintro i x se h' ex ⟨x5, x6, x7, rfl, e⟩
      subst e
      rw [List.getElem?_map] at ex
      obtain ⟨s, er, rfl⟩ := Option.map_eq_some_iff.mp ex
      have c1 : call T (n + 2) fh [.lst (rows.map dS), dS s] h' = some (.bl (holdsB rows s), h') := holds_ok (n := n) Hh Hi (.inl rfl) (fun r q => sz_le (by have := hr r q; omega)) (sz_le (by omega))
      have c2 : call T (n + 2) fi [dS need, dS s] h' = some (.bl (insideB need s), h') := inside_ok (n := n + 1) Hi (.inl rfl) (sz_le (by omega))
      have es : ((((subsF (List.range cs.length)).take (i + 1)).map (caseP rows cs need)).sum) = (((subsF (List.range cs.length)).take i).map (caseP rows cs need)).sum + caseP rows cs need s := by
        rw [take_snoc er, List.map_append]
        exact sum_snoc _ _
      rw [es]
      generalize ((((subsF (List.range cs.length)).take i).map (caseP rows cs need)).sum) = tot
      have q1 : ∀ b : Bool, eqD h' (.bl b) (.bl true) = some b := fun b => by cases b <;> rfl
      have hin : ∀ b : Bool, truD h' (.bl b) = some b := fun b => rfl
      unfold caseP
      by_cases hh : (holdsB rows s && insideB need s) = true
      · rw [if_pos hh]
        rw [Bool.and_eq_true] at hh
        obtain ⟨x7', ew⟩ := weight_ok (T := T) (n := n + 2) (h := h') (x0 := some (.lst (rows.map dS))) (x2 := some (.bl true)) (x3 := some (dS need)) (x4 := some (dN tot)) (x7 := x7) (cs := cs) (s := s) hc (by omega)
        refine ⟨[some (.lst (rows.map dS)), some (dS cs), some (.bl true), some (dS need), some (dN tot), some (dS s), x6, x7], [some (.lst (rows.map dS)), some (dS cs), some (.bl true), some (dS need), some (dN (tot + wtP cs s cs.length)), some (dS s), some (dN (wtP cs s cs.length)), x7'], h', rfl, ?_, _, _, _, rfl, rfl⟩
        have e6 : dN (tot + wtP cs s cs.length) = .int ((tot : Int) + (wtP cs s cs.length : Int)) := by unfold dN; rw [Int.natCast_add]
        rw [e6]
        have eb : exB (cn T (n + 2)) (.cons (.set 6 (.cst (.int 1))) (.cons (.for_ (.nm 7) (.rng1 (.blt .len (.cons (.var 1) .nil))) Lw) (.cons (.set 4 (.bin .Add (.var 4) (.var 6))) .nil))) [some (.lst (rows.map dS)), some (dS cs), some (.bl true), some (dS need), some (dN tot), some (dS s), x6, x7] h' =
            some (.nx, [some (.lst (rows.map dS)), some (dS cs), some (.bl true), some (dS need), some (.int ((tot : Int) + (wtP cs s cs.length : Int))), some (dS s), some (dN (wtP cs s cs.length)), x7'], h') := by
          rw [exB_cons (se1 := [some (.lst (rows.map dS)), some (dS cs), some (.bl true), some (dS need), some (dN tot), some (dS s), some (.int 1), x7]) (h1 := h') (by simp only [exS, ev, evA, evO, evT, evC, evI_seq, evF_disp, evF_lst, evF_slk, evF_cat, cn_cf, startD, bltD, lenD, Cr.intD, tupleD, sumD, anyD, allD, absD, minD, maxD, gcdD, binD, cmpD, truD, idxD, isiD, mthD, isN, List.map_cons, List.map_nil, List.length_cons, List.length_nil, Option.bind_some, Option.map_some, List.set_cons_zero, List.set_cons_succ, List.getElem?_cons_zero, List.getElem?_cons_succ, List.replicate, List.cons_append, List.nil_append, List.append_nil, Nat.zero_add, Nat.add_one_sub_one, Nat.sub_self, putT, putS, if_true, and_self, sz0, sz1, sz2, sz3, sz5, sz6, wipeD, Nat.reduceAdd, Nat.reduceSub])]
          rw [exB_cons ew]
          simp only [exB, exS, ev, evA, evO, evT, evC, evI_seq, evF_disp, evF_lst, evF_slk, evF_cat, cn_cf, startD, bltD, lenD, Cr.intD, tupleD, sumD, anyD, allD, absD, minD, maxD, gcdD, binD, cmpD, truD, idxD, isiD, mthD, isN, List.map_cons, List.map_nil, List.length_cons, List.length_nil, Option.bind_some, Option.map_some, List.set_cons_zero, List.set_cons_succ, List.getElem?_cons_zero, List.getElem?_cons_succ, List.replicate, List.cons_append, List.nil_append, List.append_nil, Nat.zero_add, Nat.add_one_sub_one, Nat.sub_self, putT, putS, if_true, and_self, sz0, sz1, sz2, sz3, sz5, sz6, wipeD, Nat.reduceAdd, Nat.reduceSub, dN]
        rw [Lcases, exB_cons (se1 := [some (.lst (rows.map dS)), some (dS cs), some (.bl true), some (dS need), some (.int ((tot : Int) + (wtP cs s cs.length : Int))), some (dS s), some (dN (wtP cs s cs.length)), x7']) (h1 := h') ((exS_ifT (evT_andT (h1 := h') (h2 := h') (by simp only [exS, ev, evA, evO, evT, evC, evI_seq, evF_disp, evF_lst, evF_slk, evF_cat, cn_cf, startD, bltD, lenD, Cr.intD, tupleD, sumD, anyD, allD, absD, minD, maxD, gcdD, binD, cmpD, truD, idxD, isiD, mthD, isN, List.map_cons, List.map_nil, List.length_cons, List.length_nil, Option.bind_some, Option.map_some, List.set_cons_zero, List.set_cons_succ, List.getElem?_cons_zero, List.getElem?_cons_succ, List.replicate, List.cons_append, List.nil_append, List.append_nil, Nat.zero_add, Nat.add_one_sub_one, Nat.sub_self, putT, putS, if_true, and_self, sz0, sz1, sz2, sz3, sz5, sz6, wipeD, Nat.reduceAdd, Nat.reduceSub, c1, q1, hh.1]) (by simp only [exS, ev, evA, evO, evT, evC, evI_seq, evF_disp, evF_lst, evF_slk, evF_cat, cn_cf, startD, bltD, lenD, Cr.intD, tupleD, sumD, anyD, allD, absD, minD, maxD, gcdD, binD, cmpD, truD, idxD, isiD, mthD, isN, List.map_cons, List.map_nil, List.length_cons, List.length_nil, Option.bind_some, Option.map_some, List.set_cons_zero, List.set_cons_succ, List.getElem?_cons_zero, List.getElem?_cons_succ, List.replicate, List.cons_append, List.nil_append, List.append_nil, Nat.zero_add, Nat.add_one_sub_one, Nat.sub_self, putT, putS, if_true, and_self, sz0, sz1, sz2, sz3, sz5, sz6, wipeD, Nat.reduceAdd, Nat.reduceSub, c2, hh.2]))).trans eb)]
        exact exB_nil
      · rw [if_neg hh]
        refine ⟨[some (.lst (rows.map dS)), some (dS cs), some (.bl true), some (dS need), some (dN tot), some (dS s), x6, x7], [some (.lst (rows.map dS)), some (dS cs), some (.bl true), some (dS need), some (dN (tot + 0)), some (dS s), x6, x7], h', rfl, ?_, _, _, _, rfl, rfl⟩
        rw [Nat.add_zero, Lcases]
        rw [exB_cons (se1 := [some (.lst (rows.map dS)), some (dS cs), some (.bl true), some (dS need), some (dN tot), some (dS s), x6, x7]) (h1 := h') ((exS_ifF (h1 := h') (by
          cases hx : holdsB rows s with
          | false => exact evT_andF (by simp only [exS, ev, evA, evO, evT, evC, evI_seq, evF_disp, evF_lst, evF_slk, evF_cat, cn_cf, startD, bltD, lenD, Cr.intD, tupleD, sumD, anyD, allD, absD, minD, maxD, gcdD, binD, cmpD, truD, idxD, isiD, mthD, isN, List.map_cons, List.map_nil, List.length_cons, List.length_nil, Option.bind_some, Option.map_some, List.set_cons_zero, List.set_cons_succ, List.getElem?_cons_zero, List.getElem?_cons_succ, List.replicate, List.cons_append, List.nil_append, List.append_nil, Nat.zero_add, Nat.add_one_sub_one, Nat.sub_self, putT, putS, if_true, and_self, sz0, sz1, sz2, sz3, sz5, sz6, wipeD, Nat.reduceAdd, Nat.reduceSub, c1, q1, hx])
          | true =>
            cases hy : insideB need s with
            | false => exact evT_andT (h1 := h') (by simp only [exS, ev, evA, evO, evT, evC, evI_seq, evF_disp, evF_lst, evF_slk, evF_cat, cn_cf, startD, bltD, lenD, Cr.intD, tupleD, sumD, anyD, allD, absD, minD, maxD, gcdD, binD, cmpD, truD, idxD, isiD, mthD, isN, List.map_cons, List.map_nil, List.length_cons, List.length_nil, Option.bind_some, Option.map_some, List.set_cons_zero, List.set_cons_succ, List.getElem?_cons_zero, List.getElem?_cons_succ, List.replicate, List.cons_append, List.nil_append, List.append_nil, Nat.zero_add, Nat.add_one_sub_one, Nat.sub_self, putT, putS, if_true, and_self, sz0, sz1, sz2, sz3, sz5, sz6, wipeD, Nat.reduceAdd, Nat.reduceSub, c1, q1, hx]) (by simp only [exS, ev, evA, evO, evT, evC, evI_seq, evF_disp, evF_lst, evF_slk, evF_cat, cn_cf, startD, bltD, lenD, Cr.intD, tupleD, sumD, anyD, allD, absD, minD, maxD, gcdD, binD, cmpD, truD, idxD, isiD, mthD, isN, List.map_cons, List.map_nil, List.length_cons, List.length_nil, Option.bind_some, Option.map_some, List.set_cons_zero, List.set_cons_succ, List.getElem?_cons_zero, List.getElem?_cons_succ, List.replicate, List.cons_append, List.nil_append, List.append_nil, Nat.zero_add, Nat.add_one_sub_one, Nat.sub_self, putT, putS, if_true, and_self, sz0, sz1, sz2, sz3, sz5, sz6, wipeD, Nat.reduceAdd, Nat.reduceSub, c2, hy])
            | true => rw [hx, hy] at hh; exact absurd rfl hh)).trans exB_nil)]
        exact exB_nil)
  subst e2 e3
  rw [List.length_map, List.take_length] at e1
  exact ⟨x5, x6, x7, e1⟩
theorem cases_ok {f fs fi fh : Nat} (H : Has T f (Bcases fs fi fh) 4 8 true) (Hs' : Has T fs Bsubsets 1 5 true) (Hi : Has T fi Binside 2 3 true) (Hh : Has T fh (Bholds fi) 2 3 true) {rows : List (List Nat)} {cs need : List Nat} (hc : ∀ c ∈ cs, c ≤ 1000) (hl : cs.length ≤ 5)
    (hr : ∀ r ∈ rows, r.length ≤ 1000) (hrl : rows.length ≤ 1000) (hn : need.length ≤ 1000) : call T (n + 3) f [.lst (rows.map dS), dS cs, .bl true, dS need] h = some (dN (casesP rows cs need), h) := by
  have hsub : call T (n + 2) fs [dS (List.range cs.length)] h = some (.lst ((subsF (List.range cs.length)).map dS), h) := subsets_ok Hs' (by rw [List.length_range]; exact hl)
  obtain ⟨x5, x6, x7, e1⟩ := cases_loop (n := n) (h := h) Hi Hh hc hl hr hrl hn
  refine H.rt rfl ⟨[some (.lst (rows.map dS)), some (dS cs), some (.bl true), some (dS need), some (dN (casesP rows cs need)), x5, x6, x7], ?_⟩ (leave_same rfl)
  unfold Bcases
  rw [exB_cons (se1 := [some (.lst (rows.map dS)), some (dS cs), some (.bl true), some (dS need), some (.int 0), none, none, none]) (h1 := h) (by simp only [exS, ev, evA, evO, evT, evC, evI_seq, evF_disp, evF_lst, evF_slk, evF_cat, cn_cf, startD, bltD, lenD, Cr.intD, tupleD, sumD, anyD, allD, absD, minD, maxD, gcdD, binD, cmpD, truD, idxD, isiD, mthD, isN, List.map_cons, List.map_nil, List.length_cons, List.length_nil, Option.bind_some, Option.map_some, List.set_cons_zero, List.set_cons_succ, List.getElem?_cons_zero, List.getElem?_cons_succ, List.replicate, List.cons_append, List.nil_append, List.append_nil, Nat.zero_add, Nat.add_one_sub_one, Nat.sub_self, putT, putS, if_true, and_self, sz0, sz1, sz2, sz3, sz5, sz6, wipeD, Nat.reduceAdd, Nat.reduceSub])]
  rw [exB_cons (se1 := [some (.lst (rows.map dS)), some (dS cs), some (.bl true), some (dS need), some (dN (casesP rows cs need)), x5, x6, x7]) (h1 := h) (by
    have e5 := lrg_len (h := h) (x0 := some (.lst (rows.map dS))) (rest := [some (.bl true), some (dS need), some (.int 0), none, none, none]) (cs := cs) (by omega) (c := cn T (n + 2))
    have hsub : call T (n + 2) fs [.tup (dNs (List.range cs.length))] h = some (.lst ((subsF (List.range cs.length)).map dS), h) := hsub
    rw [exS_for (evI_lst (xs := (subsF (List.range cs.length)).map dS) (h1 := h) ((ev_call (evA_one (ev_blt (d := .tup (dNs (List.range cs.length))) (evA_one (ev_pl e5)) rfl))).trans hsub))]
    exact e1)]
  refine exB_rt ?_
  simp only [exS, ev, evA, evO, evT, evC, evI_seq, evF_disp, evF_lst, evF_slk, evF_cat, cn_cf, startD, bltD, lenD, Cr.intD, tupleD, sumD, anyD, allD, absD, minD, maxD, gcdD, binD, cmpD, truD, idxD, isiD, mthD, isN, List.map_cons, List.map_nil, List.length_cons, List.length_nil, Option.bind_some, Option.map_some, List.set_cons_zero, List.set_cons_succ, List.getElem?_cons_zero, List.getElem?_cons_succ, List.replicate, List.cons_append, List.nil_append, List.append_nil, Nat.zero_add, Nat.add_one_sub_one, Nat.sub_self, putT, putS, if_true, and_self, sz0, sz1, sz2, sz3, sz5, sz6, wipeD, Nat.reduceAdd, Nat.reduceSub]
end
end Cr
/-! The plain law of the diagrams: weights by the last place, by the first place. -/
namespace Cr
open PySem PySem.Spec PyProof.Rows L2
/-! ### every other item -/
def ev2 {α : Type} : List α → List α
  | a :: _ :: r => a :: ev2 r
  | [a] => [a]
  | [] => []
def od2 {α : Type} : List α → List α
  | _ :: b :: r => b :: od2 r
  | _ => []
theorem ev2_pick {α : Type} : ∀ (n : Nat) (xs : List α), xs.length = 2 * n → (List.range n).filterMap (fun k => xs[2 * k]?) = ev2 xs ∧ (List.range n).filterMap (fun k => xs[2 * k + 1]?) = od2 xs
  | 0, [], _ => ⟨rfl, rfl⟩
  | 0, _ :: _, h => by simp at h
  | n + 1, [], h => by simp at h
  | n + 1, [_], h => by simp at h; omega
  | n + 1, a :: b :: r, h => by
    have hr : r.length = 2 * n := by simp only [List.length_cons] at h; omega
    obtain ⟨h1, h2⟩ := ev2_pick n r hr
    rw [List.range_succ_eq_map]
    refine ⟨?_, ?_⟩
    · rw [List.filterMap_cons, List.filterMap_map]
      show a :: _ = a :: ev2 r
      rw [← h1]
      rfl
    · rw [List.filterMap_cons, List.filterMap_map]
      show b :: _ = b :: od2 r
      rw [← h2]
      rfl
theorem pick_ev {α : Type} {xs : List α} {n : Nat} (h : xs.length = 2 * n) : pickD xs 0 2 = ev2 xs := by
  have e : sliceBounds (some 0) none (some 2) (2 * n) = (0, ((2 * n : Nat) : Int), 2) := by
    unfold sliceBounds
    simp
    omega
  unfold pickD
  rw [h, e, ← (ev2_pick n xs h).1]
  unfold sliceRange
  have ec : (if (2 : Int) > 0 then (if (0 : Int) < ((2 * n : Nat) : Int) then (((2 * n : Nat) : Int) - 0 + 2 - 1) / 2 else 0) else (if (0 : Int) > ((2 * n : Nat) : Int) then ((0 : Int) - ((2 * n : Nat) : Int) - 2 - 1) / (-2) else 0)).toNat = n := by
    rw [if_pos (by decide)]
    split <;> omega
  show (List.map _ (List.range (if (2 : Int) > 0 then (if (0 : Int) < ((2 * n : Nat) : Int) then (((2 * n : Nat) : Int) - 0 + 2 - 1) / 2 else 0) else (if (0 : Int) > ((2 * n : Nat) : Int) then ((0 : Int) - ((2 * n : Nat) : Int) - 2 - 1) / (-2) else 0)).toNat)).filterMap _ = _
  rw [ec, List.filterMap_map]
  congr 1
  funext k
  show xs[((0 : Int) + 2 * (k : Int)).toNat]? = _
  congr 1
  omega
theorem pick_od {α : Type} {xs : List α} {n : Nat} (h : xs.length = 2 * (n + 1)) : pickD xs 1 2 = od2 xs := by
  have e : sliceBounds (some 1) none (some 2) (2 * (n + 1)) = (1, ((2 * (n + 1) : Nat) : Int), 2) := by
    unfold sliceBounds
    simp
    omega
  unfold pickD
  rw [h, e, ← (ev2_pick (n + 1) xs h).2]
  unfold sliceRange
  have ec : (if (2 : Int) > 0 then (if (1 : Int) < ((2 * (n + 1) : Nat) : Int) then (((2 * (n + 1) : Nat) : Int) - 1 + 2 - 1) / 2 else 0) else (if (1 : Int) > ((2 * (n + 1) : Nat) : Int) then ((1 : Int) - ((2 * (n + 1) : Nat) : Int) - 2 - 1) / (-2) else 0)).toNat = n + 1 := by
    rw [if_pos (by decide)]
    split <;> omega
  show (List.map _ (List.range (if (2 : Int) > 0 then (if (1 : Int) < ((2 * (n + 1) : Nat) : Int) then (((2 * (n + 1) : Nat) : Int) - 1 + 2 - 1) / 2 else 0) else (if (1 : Int) > ((2 * (n + 1) : Nat) : Int) then ((1 : Int) - ((2 * (n + 1) : Nat) : Int) - 2 - 1) / (-2) else 0)).toNat)).filterMap _ = _
  rw [ec, List.filterMap_map]
  congr 1
  funext k
  show xs[((1 : Int) + 2 * (k : Int)).toNat]? = _
  congr 1
  omega
theorem ev2_len {α : Type} : ∀ (n : Nat) (xs : List α), xs.length = 2 * n → (ev2 xs).length = n ∧ (od2 xs).length = n
  | 0, [], _ => ⟨rfl, rfl⟩
  | 0, _ :: _, h => by simp at h
  | n + 1, [], h => by simp at h
  | n + 1, [_], h => by simp at h; omega
  | n + 1, a :: b :: r, h => by
    have hr : r.length = 2 * n := by simp only [List.length_cons] at h; omega
    obtain ⟨h1, h2⟩ := ev2_len n r hr
    exact ⟨congrArg (· + 1) h1, congrArg (· + 1) h2⟩
theorem ev2_app {α : Type} : ∀ (n : Nat) (xs ys : List α), xs.length = 2 * n → ev2 (xs ++ ys) = ev2 xs ++ ev2 ys ∧ od2 (xs ++ ys) = od2 xs ++ od2 ys
  | 0, [], ys, _ => ⟨rfl, rfl⟩
  | 0, _ :: _, ys, h => by simp at h
  | n + 1, [], ys, h => by simp at h
  | n + 1, [_], ys, h => by simp at h; omega
  | n + 1, a :: b :: r, ys, h => by
    have hr : r.length = 2 * n := by simp only [List.length_cons] at h; omega
    obtain ⟨h1, h2⟩ := ev2_app n r ys hr
    exact ⟨congrArg (a :: ·) h1, congrArg (b :: ·) h2⟩
theorem ev2_map {α β : Type} (f : α → β) : ∀ xs : List α, ev2 (xs.map f) = (ev2 xs).map f ∧ od2 (xs.map f) = (od2 xs).map f
  | [] => ⟨rfl, rfl⟩
  | [a] => ⟨rfl, rfl⟩
  | a :: b :: r => by
    obtain ⟨h1, h2⟩ := ev2_map f r
    exact ⟨congrArg (f a :: ·) h1, congrArg (f b :: ·) h2⟩
theorem ev2_mem {α : Type} : ∀ (xs : List α) (x : α), (x ∈ ev2 xs → x ∈ xs) ∧ (x ∈ od2 xs → x ∈ xs)
  | [], x => ⟨id, id⟩
  | [a], x => ⟨id, fun h => by cases h⟩
  | a :: b :: r, x => by
    obtain ⟨h1, h2⟩ := ev2_mem r x
    refine ⟨fun h => ?_, fun h => ?_⟩
    · rcases List.mem_cons.mp (show x ∈ a :: ev2 r from h) with e | h
      · rw [e]; exact List.mem_cons_self
      · exact List.mem_cons_of_mem _ (List.mem_cons_of_mem _ (h1 h))
    · rcases List.mem_cons.mp (show x ∈ b :: od2 r from h) with e | h
      · rw [e]; exact List.mem_cons_of_mem _ List.mem_cons_self
      · exact List.mem_cons_of_mem _ (List.mem_cons_of_mem _ (h2 h))

/-! ### the weight of a table of truth -/
section
variable (cs : List Nat)
def VT : Nat → List Bool → Nat → Nat
  | 0, bs, _ => match bs with | [true] => 1 | _ => 0
  | d + 1, bs, p => (1000 - cs.getD p 0) * VT d (ev2 bs) (p + 1) + cs.getD p 0 * VT d (od2 bs) (p + 1)
end
section
variable {cs : List Nat}
theorem VT_true (hc : ∀ p, cs.getD p 0 ≤ 1000) : ∀ (d : Nat) (bs : List Bool) (p : Nat), bs.length = 2 ^ d → (∀ b ∈ bs, b = true) → VT cs d bs p = 1000 ^ d
  | 0, bs, p, hl, hb => by
    match bs, hl, hb with
    | [b], _, hb => rw [hb b List.mem_cons_self]; rfl
  | d + 1, bs, p, hl, hb => by
    have hl2 : bs.length = 2 * 2 ^ d := by rw [hl, Nat.pow_succ]; omega
    obtain ⟨l1, l2⟩ := ev2_len _ bs hl2
    rw [VT, VT_true hc d _ _ l1 fun b h => hb b ((ev2_mem bs b).1 h), VT_true hc d _ _ l2 fun b h => hb b ((ev2_mem bs b).2 h), ← Nat.add_mul, Nat.pow_succ, Nat.mul_comm]
    congr 1
    have := hc p
    omega
theorem VT_false : ∀ (d : Nat) (bs : List Bool) (p : Nat), (∀ b ∈ bs, b = false) → VT cs d bs p = 0
  | 0, bs, p, hb => by
    match bs, hb with
    | [], _ => rfl
    | [b], hb => rw [hb b List.mem_cons_self]; rfl
    | a :: _ :: _, _ => cases a <;> rfl
  | d + 1, bs, p, hb => by
    rw [VT, VT_false d _ _ fun b h => hb b ((ev2_mem bs b).1 h), VT_false d _ _ fun b h => hb b ((ev2_mem bs b).2 h)]
    rfl
theorem VT_le (hc : ∀ p, cs.getD p 0 ≤ 1000) : ∀ (d : Nat) (bs : List Bool) (p : Nat), VT cs d bs p ≤ 1000 ^ d
  | 0, bs, p => by
    unfold VT
    split <;> decide
  | d + 1, bs, p => by
    have h1 := VT_le hc d (ev2 bs) (p + 1)
    have h2 := VT_le hc d (od2 bs) (p + 1)
    have h3 := Nat.mul_le_mul_left (1000 - cs.getD p 0) h1
    have h4 := Nat.mul_le_mul_left (cs.getD p 0) h2
    have h5 : (1000 - cs.getD p 0) * 1000 ^ d + cs.getD p 0 * 1000 ^ d = 1000 ^ (d + 1) := by
      rw [← Nat.add_mul, Nat.pow_succ, Nat.mul_comm]
      congr 1
      have := hc p
      omega
    rw [VT]
    omega
theorem VT_top : ∀ (d : Nat) (xs ys : List Bool) (p : Nat), xs.length = 2 ^ d → ys.length = 2 ^ d → VT cs (d + 1) (xs ++ ys) p = (1000 - cs.getD (p + d) 0) * VT cs d xs p + cs.getD (p + d) 0 * VT cs d ys p
  | 0, xs, ys, p, h1, h2 => by
    match xs, ys, h1, h2 with
    | [a], [b], _, _ => rfl
  | d + 1, xs, ys, p, h1, h2 => by
    have l1 : xs.length = 2 * 2 ^ d := by rw [h1, Nat.pow_succ]; omega
    have l2 : ys.length = 2 * 2 ^ d := by rw [h2, Nat.pow_succ]; omega
    obtain ⟨a1, a2⟩ := ev2_len _ xs l1
    obtain ⟨b1, b2⟩ := ev2_len _ ys l2
    obtain ⟨e1, e2⟩ := ev2_app _ xs ys l1
    rw [VT, e1, e2, VT_top d _ _ (p + 1) a1 b1, VT_top d _ _ (p + 1) a2 b2, VT, VT, show p + 1 + d = p + (d + 1) by omega]
    generalize 1000 - cs.getD (p + (d + 1)) 0 = u
    generalize cs.getD (p + (d + 1)) 0 = v
    generalize 1000 - cs.getD p 0 = w
    generalize cs.getD p 0 = z
    generalize VT cs d (ev2 xs) (p + 1) = A
    generalize VT cs d (ev2 ys) (p + 1) = B
    generalize VT cs d (od2 xs) (p + 1) = C
    generalize VT cs d (od2 ys) (p + 1) = E
    grind

/-! ### the subsets -/
theorem subs_mem : ∀ (m : Nat) (s : List Nat), s ∈ subsF (List.range m) → ∀ x ∈ s, x < m
  | 0, s, hs, x, hx => by
    have e : s = [] := List.mem_singleton.mp hs
    rw [e] at hx; cases hx
  | m + 1, s, hs, x, hx => by
    rw [List.range_succ, subsF_snoc] at hs
    unfold grow at hs
    rcases List.mem_append.mp hs with hs | hs
    · have := subs_mem m s hs x hx; omega
    · obtain ⟨q, hq, rfl⟩ := List.mem_map.mp hs
      rcases List.mem_append.mp hx with hx | hx
      · have := subs_mem m q hq x hx; omega
      · rw [List.mem_singleton.mp hx]; omega
theorem wt_snoc {s : List Nat} {m : Nat} : ∀ (k : Nat), k ≤ m → wtP cs (s ++ [m]) k = wtP cs s k
  | 0, _ => rfl
  | k + 1, h => by
    rw [wtP, wtP, wt_snoc k (by omega)]
    congr 1
    have e : (k ∈ s ++ [m]) ↔ (k ∈ s) := by
      rw [List.mem_append, List.mem_singleton]
      constructor
      · intro z; rcases z with z | z
        · exact z
        · omega
      · exact .inl
    by_cases hk : k ∈ s
    · rw [if_pos hk, if_pos (e.mpr hk)]
    · rw [if_neg hk, if_neg (fun z => hk (e.mp z))]
theorem sum_mul {α : Type} (c : Nat) (f : α → Nat) (xs : List α) : (xs.map fun x => f x * c).sum = c * (xs.map f).sum := by
  induction xs with
  | nil => simp
  | cons x xs ih =>
    rw [List.map_cons, List.map_cons, List.sum_cons, List.sum_cons, ih, Nat.mul_add, Nat.mul_comm]
theorem VT_subs : ∀ (m : Nat) (F : List Nat → Bool), VT cs m ((subsF (List.range m)).map F) 0 = ((subsF (List.range m)).map fun s => if F s then wtP cs s m else 0).sum
  | 0, F => by
    show VT cs 0 [F []] 0 = [if F [] then 1 else 0].sum
    cases F [] <;> rfl
  | m + 1, F => by
    have hl := (subsF_len (List.range m)).1
    rw [List.length_range] at hl
    rw [List.range_succ, subsF_snoc]
    unfold grow
    rw [List.map_append, List.map_append, List.sum_append, VT_top m _ _ 0 (by rw [List.length_map, hl]) (by rw [List.length_map, List.length_map, hl]), List.map_map, VT_subs m F, VT_subs m (F ∘ fun x => x ++ [m]), Nat.zero_add]
    congr 1
    · rw [← sum_mul]
      congr 1
      refine List.map_congr_left fun s hs => ?_
      have hm : m ∉ s := fun z => by have := subs_mem m s hs m z; omega
      rw [wtP, if_neg hm]
      split
      · rfl
      · rw [Nat.zero_mul]
    · rw [← sum_mul, List.map_map]
      congr 1
      refine List.map_congr_left fun s hs => ?_
      have hm : m ∈ s ++ [m] := List.mem_append_right _ List.mem_cons_self
      show (if F (s ++ [m]) then wtP cs s m else 0) * _ = if F (s ++ [m]) then wtP cs (s ++ [m]) (m + 1) else 0
      rw [wtP, if_pos hm, wt_snoc m (Nat.le_refl _)]
      split
      · rfl
      · rw [Nat.zero_mul]
/-! ### the members of a code -/
def membP (m code : Nat) : List Nat := (List.range m).filter fun p => code / 2 ^ p % 2 == 1
theorem memb_low {m code : Nat} (h : code < 2 ^ m) : membP (m + 1) code = membP m code := by
  unfold membP
  rw [List.range_succ, List.filter_append]
  have : (code / 2 ^ m % 2 == 1) = false := by rw [Nat.div_eq_of_lt h]; rfl
  rw [List.filter_cons_of_neg (by rw [this]; decide), List.filter_nil, List.append_nil]
theorem memb_high {m code : Nat} (h : code < 2 ^ m) : membP (m + 1) (2 ^ m + code) = membP m code ++ [m] := by
  unfold membP
  rw [List.range_succ, List.filter_append]
  congr 1
  · refine List.filter_congr fun p hp => ?_
    have hp := List.mem_range.mp hp
    have e : 2 ^ m = 2 ^ p * (2 * 2 ^ (m - p - 1)) := by
      rw [← Nat.pow_succ', ← Nat.pow_add]
      congr 1
      omega
    have e2 : (2 ^ m + code) / 2 ^ p = 2 * 2 ^ (m - p - 1) + code / 2 ^ p := by
      rw [e, Nat.add_comm, Nat.add_mul_div_left _ _ (Nat.two_pow_pos p), Nat.add_comm]
    rw [e2, Nat.add_comm, Nat.add_mul_mod_self_left]
  · have : ((2 ^ m + code) / 2 ^ m % 2 == 1) = true := by
      rw [Nat.add_comm, Nat.add_div_right _ (Nat.two_pow_pos m), Nat.div_eq_of_lt h]
      rfl
    rw [List.filter_cons_of_pos (a := m) (l := []) (p := fun p => (2 ^ m + code) / 2 ^ p % 2 == 1) this, List.filter_nil]
theorem subs_memb : ∀ m : Nat, subsF (List.range m) = (List.range (2 ^ m)).map (membP m)
  | 0 => rfl
  | m + 1 => by
    rw [List.range_succ, subsF_snoc, subs_memb m]
    unfold grow
    rw [Nat.pow_succ, Nat.mul_two, List.range_add, List.map_append]
    congr 1
    · exact List.map_congr_left fun c hc => (memb_low (List.mem_range.mp hc)).symm
    · rw [List.map_map, List.map_map]
      exact List.map_congr_left fun c hc => (memb_high (List.mem_range.mp hc)).symm
end
end Cr
/-! Law functions 6: the diagram of a table of truth. -/
namespace Cr
open PySem PySem.Spec PyProof.Rows L2
/-! ### nodes as data -/
theorem nat_beq {i j : Nat} : ((i : Int) == (j : Int)) = decide (i = j) := by
  by_cases h : i = j
  · subst h; simp
  · rw [decide_eq_false h, beq_eq_false_iff_ne]
    omega
theorem deq_T {a b : Nat × Nat × Nat} : deq (dT a) (dT b) = decide (a = b) := by
  obtain ⟨a1, a2, a3⟩ := a
  obtain ⟨b1, b2, b3⟩ := b
  show (((a1 : Int) == (b1 : Int)) && (((a2 : Int) == (b2 : Int)) && (((a3 : Int) == (b3 : Int)) && true))) = _
  rw [nat_beq, nat_beq, nat_beq, Bool.and_true, ← Bool.decide_and, ← Bool.decide_and]
  congr 1
  simp only [Prod.mk.injEq]
theorem memD_T {ns : List (Nat × Nat × Nat)} {r : Nat × Nat × Nat} : memD (ns.map dT) (dT r) = decide (r ∈ ns) := by
  induction ns with
  | nil => rfl
  | cons x ns ih =>
    show (deq (dT x) (dT r) || memD (ns.map dT) (dT r)) = _
    rw [ih, deq_T]
    by_cases h : x = r
    · subst h; simp
    · have : ¬ r = x := fun e => h e.symm
      simp [h, this]
/-- the place of the first -/
def posT (r : Nat × Nat × Nat) : List (Nat × Nat × Nat) → Nat
  | [] => 0
  | x :: xs => if x = r then 0 else posT r xs + 1
theorem posT_get {r : Nat × Nat × Nat} : ∀ {ns : List (Nat × Nat × Nat)}, r ∈ ns → ns[posT r ns]? = some r
  | [], h => by cases h
  | x :: xs, h => by
    by_cases e : x = r
    · subst e
      simp [posT]
    · have h2 : r ∈ xs := (List.mem_cons.mp h).resolve_left fun z => e z.symm
      rw [posT, if_neg e, List.getElem?_cons_succ]
      exact posT_get h2
theorem findD_T {r : Nat × Nat × Nat} : ∀ {ns : List (Nat × Nat × Nat)} {k : Nat}, r ∈ ns → findD (dT r) k (ns.map dT) = some (k + posT r ns)
  | [], k, h => by cases h
  | x :: xs, k, h => by
    show (if deq (dT x) (dT r) = true then some k else findD (dT r) (k + 1) (xs.map dT)) = _
    rw [deq_T]
    by_cases e : x = r
    · rw [if_pos (decide_eq_true e), posT, if_pos e, Nat.add_zero]
    · have h2 : r ∈ xs := (List.mem_cons.mp h).resolve_left fun z => e z.symm
      rw [if_neg (by rw [decide_eq_true_eq]; exact e), findD_T h2, posT, if_neg e]
      congr 1
      omega
theorem okD_T {r : Nat × Nat × Nat} : okD (dT r) = true := rfl
theorem norefs_T : ∀ ns : List (Nat × Nat × Nat), norefs (ns.map dT) = true
  | [] => rfl
  | x :: ns => norefs_T ns
theorem lay_T : ∀ ns : List (Nat × Nat × Nat), PyData.canLayAll0 (DPs (ns.map dT)) = true
  | [] => rfl
  | x :: ns => lay_T ns
theorem depth_T : ∀ ns : List (Nat × Nat × Nat), PyData.depthAll (DPs (ns.map dT)) ≤ 1
  | [] => by decide
  | x :: ns => by
    have := depth_T ns
    show max 1 (PyData.depthAll (DPs (ns.map dT))) ≤ 1
    omega
theorem okD_Ts {ns : List (Nat × Nat × Nat)} : okD (.lst (ns.map dT)) = true := by
  have h3 := depth_T ns
  show (norefs (ns.map dT) && (PyData.canLayAll0 (DPs (ns.map dT)) && decide (PyData.depthAll (DPs (ns.map dT)) + 1 ≤ 64))) = true
  rw [norefs_T, lay_T, decide_eq_true (by omega)]
  rfl
theorem pure_T (ns : List (Nat × Nat × Nat)) : pureDs (ns.map dT) = true := pureDs_all fun x hx => by
  obtain ⟨i, _, rfl⟩ := List.mem_map.mp hx
  rfl
/-! ### _law_node, in plain -/
def addT (r : Nat × Nat × Nat) (ns : List (Nat × Nat × Nat)) : List (Nat × Nat × Nat) := if r ∈ ns then ns else ns ++ [r]
def nodeP : Nat → List Bool → Nat → List (Nat × Nat × Nat) → Nat × List (Nat × Nat × Nat)
  | 0, bs, _, ns => (if bs.all id then 1 else 0, ns)
  | d + 1, bs, p, ns =>
    if bs.all id then (1, ns) else if bs.any id then
      (let a := nodeP d (ev2 bs) (p + 1) ns
       let b := nodeP d (od2 bs) (p + 1) a.2
       if a.1 = b.1 then (a.1, b.2) else (posT (p, a.1, b.1) (addT (p, a.1, b.1) b.2) + 2, addT (p, a.1, b.1) b.2))
    else (0, ns)
theorem addT_len (r : Nat × Nat × Nat) (ns : List (Nat × Nat × Nat)) : (addT r ns).length ≤ ns.length + 1 := by
  unfold addT
  split
  · omega
  · rw [List.length_append, List.length_singleton]; exact Nat.le_refl _
theorem addT_mem (r : Nat × Nat × Nat) (ns : List (Nat × Nat × Nat)) : r ∈ addT r ns := by
  unfold addT
  split
  · assumption
  · exact List.mem_append_right _ List.mem_cons_self
theorem nodeP_len : ∀ (d : Nat) (bs : List Bool) (p : Nat) (ns : List (Nat × Nat × Nat)), (nodeP d bs p ns).2.length + 1 ≤ ns.length + 2 ^ d
  | 0, bs, p, ns => Nat.le_refl _
  | d + 1, bs, p, ns => by
    have h1 := nodeP_len d (ev2 bs) (p + 1) ns
    have h2 := nodeP_len d (od2 bs) (p + 1) (nodeP d (ev2 bs) (p + 1) ns).2
    have h3 := Nat.two_pow_pos d
    have h4 := addT_len (p, (nodeP d (ev2 bs) (p + 1) ns).1, (nodeP d (od2 bs) (p + 1) (nodeP d (ev2 bs) (p + 1) ns).2).1) (nodeP d (od2 bs) (p + 1) (nodeP d (ev2 bs) (p + 1) ns).2).2
    rw [Nat.pow_succ]
    unfold nodeP
    split
    · show ns.length + 1 ≤ _; omega
    · split
      · dsimp only
        split
        · show (nodeP d (od2 bs) (p + 1) (nodeP d (ev2 bs) (p + 1) ns).2).2.length + 1 ≤ _
          omega
        · show (addT _ _).length + 1 ≤ _
          omega
      · show ns.length + 1 ≤ _; omega
section
variable {T : Tb} {n : Nat} {h : Hs}
def Bnode (fn : Nat) : CB := (.cons (.ife (.tru (.blt .all (.cons (.var 0) .nil))) (.cons (.ret (.cst (.int 1))) .nil) .nil) (.cons (.ife (.not (.tru (.blt .any (.cons (.var 0) .nil)))) (.cons (.ret (.cst (.int 0))) .nil) .nil) (.cons (.set 3 (.call fn (.cons (.pl (.slk (.var 0) 0 2)) (.cons (.bin .Add (.var 1) (.cst (.int 1))) (.cons (.var 2) .nil))))) (.cons (.set 4 (.call fn (.cons (.pl (.slk (.var 0) 1 2)) (.cons (.bin .Add (.var 1) (.cst (.int 1))) (.cons (.var 2) .nil))))) (.cons (.ife (.cmp .Eq (.var 3) (.var 4)) (.cons (.ret (.var 3)) .nil) .nil) (.cons (.set 5 (.tup (.cons (.var 1) (.cons (.var 3) (.cons (.var 4) .nil))))) (.cons (.ife (.cmp .NotIn (.var 5) (.var 2)) (.cons (.exp (.mth .append (.var 2) (.cons (.var 5) .nil))) .nil) .nil) (.cons (.ret (.bin .Add (.mth .index (.var 2) (.cons (.var 5) .nil)) (.cst (.int 2)))) .nil))))))))
/-- the truths: a list, or the changed list at t -/
def TruAt (h : Hs) (k : Nat) (bs : List Bool) (o : D) : Prop := o = .lst (bs.map D.bl) ∨ ∃ t, o = .ref t ∧ t ≠ k ∧ h[t]? = some (.lst (bs.map D.bl))
theorem set_same {k : Nat} {o : O} (e : h[k]? = some o) : h.set k o = h := by
  have hk := (List.getElem?_eq_some_iff.mp e).1
  apply List.ext_getElem?
  intro j
  by_cases hj : k = j
  · subst hj; rw [List.getElem?_set_self hk, e]
  · rw [List.getElem?_set_ne hj]
theorem node_ok {f : Nat} (H : Has T f (Bnode f) 3 6 true) : ∀ (d : Nat) {n : Nat} {h : Hs} {bs : List Bool} {o : D} {p k : Nat} {ns : List (Nat × Nat × Nat)}, d ≤ n → bs.length = 2 ^ d → TruAt h k bs o → h[k]? = some (.lst (ns.map dT)) → ns.length + 2 ^ d ≤ 1000 →
    call T (n + 1) f [o, dN p, .ref k] h = some (dN (nodeP d bs p ns).1, h.set k (.lst ((nodeP d bs p ns).2.map dT)))
  | d, n, h, bs, o, p, k, ns, hn, hl, ho, hk, hsz => by
    have eo : lstOf h o = some (bs.map D.bl) := by
      rcases ho with rfl | ⟨t, rfl, _, e⟩
      · rfl
      · simp only [lstOf, e]
    have eall : evT (cn T n) (.tru (.blt .all (.cons (.var 0) .nil))) [some o, some (dN p), some (.ref k), none, none, none] h = some (bs.all id, h) := by
      simp only [exS, ev, evA, evO, evT, evC, evI_seq, evF_disp, evF_lst, evF_slk, evF_cat, cn_cf, startD, bltD, lenD, Cr.intD, tupleD, sumD, anyD, allD, absD, minD, maxD, gcdD, binD, cmpD, truD, idxD, isiD, mthD, isN, List.map_cons, List.map_nil, List.length_cons, List.length_nil, Option.bind_some, Option.map_some, List.set_cons_zero, List.set_cons_succ, List.getElem?_cons_zero, List.getElem?_cons_succ, List.replicate, List.cons_append, List.nil_append, List.append_nil, Nat.zero_add, Nat.add_one_sub_one, Nat.sub_self, putT, putS, if_true, and_self, sz0, sz1, sz2, sz3, sz5, sz6, wipeD, Nat.reduceAdd, Nat.reduceSub, eo, blsOf_map]
    have eany : evT (cn T n) (.tru (.blt .any (.cons (.var 0) .nil))) [some o, some (dN p), some (.ref k), none, none, none] h = some (bs.any id, h) := by
      simp only [exS, ev, evA, evO, evT, evC, evI_seq, evF_disp, evF_lst, evF_slk, evF_cat, cn_cf, startD, bltD, lenD, Cr.intD, tupleD, sumD, anyD, allD, absD, minD, maxD, gcdD, binD, cmpD, truD, idxD, isiD, mthD, isN, List.map_cons, List.map_nil, List.length_cons, List.length_nil, Option.bind_some, Option.map_some, List.set_cons_zero, List.set_cons_succ, List.getElem?_cons_zero, List.getElem?_cons_succ, List.replicate, List.cons_append, List.nil_append, List.append_nil, Nat.zero_add, Nat.add_one_sub_one, Nat.sub_self, putT, putS, if_true, and_self, sz0, sz1, sz2, sz3, sz5, sz6, wipeD, Nat.reduceAdd, Nat.reduceSub, eo, blsOf_map]
    have hkl := (List.getElem?_eq_some_iff.mp hk).1
    by_cases h1 : bs.all id = true
    · have e : nodeP d bs p ns = (1, ns) := by
        cases d with
        | zero => unfold nodeP; rw [if_pos h1]
        | succ d => unfold nodeP; rw [if_pos h1]
      rw [e, set_same hk]
      rw [h1] at eall
      refine H.rt rfl ⟨[some o, some (dN p), some (.ref k), none, none, none], ?_⟩ (leave_same rfl)
      exact exB_rt ((exS_ifT eall).trans rfl)
    by_cases h2 : bs.any id = true
    rotate_left
    · have e : nodeP d bs p ns = (0, ns) := by
        cases d with
        | zero => unfold nodeP; rw [if_neg h1]
        | succ d => unfold nodeP; rw [if_neg h1, if_neg h2]
      rw [e, set_same hk]
      rw [Bool.eq_false_iff.mpr h1] at eall
      rw [Bool.eq_false_iff.mpr h2] at eany
      refine H.rt rfl ⟨[some o, some (dN p), some (.ref k), none, none, none], ?_⟩ (leave_same rfl)
      show exB (cn T n) (Bnode f) [some o, some (dN p), some (.ref k), none, none, none] h = _
      rw [Bnode, exB_cons ((exS_ifF eall).trans exB_nil)]
      have en : evT (cn T n) (.not (.tru (.blt .any (.cons (.var 0) .nil)))) [some o, some (dN p), some (.ref k), none, none, none] h = some (true, h) := by
        show (evT (cn T n) (.tru (.blt .any (.cons (.var 0) .nil))) [some o, some (dN p), some (.ref k), none, none, none] h).map (fun p => (!p.1, p.2)) = _
        rw [eany]
        rfl
      exact exB_rt ((exS_ifT en).trans rfl)
    cases d with
    | zero =>
      exfalso
      match bs, hl with
      | [b], _ => cases b <;> simp at h1 h2
    | succ d =>
      obtain ⟨n, rfl⟩ : ∃ n', n = n' + 1 := ⟨n - 1, by omega⟩
      have hl2 : bs.length = 2 * 2 ^ d := by rw [hl, Nat.pow_succ]; omega
      obtain ⟨le, lo⟩ := ev2_len _ bs hl2
      have hp2 := Nat.two_pow_pos d
      have hsz1 : ns.length + 2 ^ d ≤ 1000 := by rw [Nat.pow_succ] at hsz; omega
      obtain ⟨q, hq⟩ : ∃ q, 2 ^ d = q + 1 := ⟨2 ^ d - 1, by omega⟩
      have pe : pickD (bs.map D.bl) 0 2 = (ev2 bs).map D.bl := by
        rw [pick_ev (n := 2 ^ d) (by rw [List.length_map]; exact hl2)]
        exact (ev2_map D.bl bs).1
      have po : pickD (bs.map D.bl) 1 2 = (od2 bs).map D.bl := by
        rw [pick_od (n := q) (by rw [List.length_map, hl2, hq])]
        exact (ev2_map D.bl bs).2
      generalize ha : nodeP d (ev2 bs) (p + 1) ns = a
      have c1 := node_ok H d (n := n) (h := h) (bs := ev2 bs) (o := .lst ((ev2 bs).map D.bl)) (p := p + 1) (k := k) (ns := ns) (by omega) le (.inl rfl) hk hsz1
      have la := nodeP_len d (ev2 bs) (p + 1) ns
      rw [ha] at c1 la
      have hk2 : (h.set k (.lst (a.2.map dT)))[k]? = some (.lst (a.2.map dT)) := List.getElem?_set_self hkl
      have hsz2 : a.2.length + 2 ^ d ≤ 1000 := by rw [Nat.pow_succ] at hsz; omega
      generalize hb : nodeP d (od2 bs) (p + 1) a.2 = b
      have c2 := node_ok H d (n := n) (h := h.set k (.lst (a.2.map dT))) (bs := od2 bs) (o := .lst ((od2 bs).map D.bl)) (p := p + 1) (k := k) (ns := a.2) (by omega) lo (.inl rfl) hk2 hsz2
      have lb := nodeP_len d (od2 bs) (p + 1) a.2
      rw [hb, List.set_set] at c2
      rw [hb] at lb
      have eN : nodeP (d + 1) bs p ns = (if a.1 = b.1 then (a.1, b.2) else (posT (p, a.1, b.1) (addT (p, a.1, b.1) b.2) + 2, addT (p, a.1, b.1) b.2)) := by
        unfold nodeP
        rw [if_neg h1, if_pos h2, ha]
        dsimp only
        rw [hb]
      rw [eN]
      rw [Bool.eq_false_iff.mpr h1] at eall
      rw [h2] at eany
      have en : evT (cn T (n + 1)) (.not (.tru (.blt .any (.cons (.var 0) .nil)))) [some o, some (dN p), some (.ref k), none, none, none] h = some (false, h) := by
        show (evT (cn T (n + 1)) (.tru (.blt .any (.cons (.var 0) .nil))) [some o, some (dN p), some (.ref k), none, none, none] h).map (fun p => (!p.1, p.2)) = _
        rw [eany]
        rfl
      have epn : (p : Int) + 1 = ((p + 1 : Nat) : Int) := by omega
      have sl0 : evF (cn T (n + 1)) (.slk (.var 0) 0 2) [some o, some (dN p), some (.ref k), none, none, none] h = some ((ev2 bs).map D.bl, h) := by
        rw [← pe]
        rcases ho with rfl | ⟨t, rfl, _, e⟩
        · simp only [exS, ev, evA, evO, evT, evC, evI_seq, evF_disp, evF_lst, evF_slk, evF_cat, cn_cf, startD, bltD, lenD, Cr.intD, tupleD, sumD, anyD, allD, absD, minD, maxD, gcdD, binD, cmpD, truD, idxD, isiD, mthD, isN, List.map_cons, List.map_nil, List.length_cons, List.length_nil, Option.bind_some, Option.map_some, List.set_cons_zero, List.set_cons_succ, List.getElem?_cons_zero, List.getElem?_cons_succ, List.replicate, List.cons_append, List.nil_append, List.append_nil, Nat.zero_add, Nat.add_one_sub_one, Nat.sub_self, putT, putS, if_true, and_self, sz0, sz1, sz2, sz3, sz5, sz6, wipeD, Nat.reduceAdd, Nat.reduceSub]
        · simp only [exS, ev, evA, evO, evT, evC, evI_seq, evF_disp, evF_lst, evF_slk, evF_cat, cn_cf, startD, bltD, lenD, Cr.intD, tupleD, sumD, anyD, allD, absD, minD, maxD, gcdD, binD, cmpD, truD, idxD, isiD, mthD, isN, List.map_cons, List.map_nil, List.length_cons, List.length_nil, Option.bind_some, Option.map_some, List.set_cons_zero, List.set_cons_succ, List.getElem?_cons_zero, List.getElem?_cons_succ, List.replicate, List.cons_append, List.nil_append, List.append_nil, Nat.zero_add, Nat.add_one_sub_one, Nat.sub_self, putT, putS, if_true, and_self, sz0, sz1, sz2, sz3, sz5, sz6, wipeD, Nat.reduceAdd, Nat.reduceSub, e]
      have sl1 : evF (cn T (n + 1)) (.slk (.var 0) 1 2) [some o, some (dN p), some (.ref k), some (dN a.1), none, none] (h.set k (.lst (a.2.map dT))) = some ((od2 bs).map D.bl, h.set k (.lst (a.2.map dT))) := by
        rw [← po]
        rcases ho with rfl | ⟨t, rfl, hne, e⟩
        · simp only [exS, ev, evA, evO, evT, evC, evI_seq, evF_disp, evF_lst, evF_slk, evF_cat, cn_cf, startD, bltD, lenD, Cr.intD, tupleD, sumD, anyD, allD, absD, minD, maxD, gcdD, binD, cmpD, truD, idxD, isiD, mthD, isN, List.map_cons, List.map_nil, List.length_cons, List.length_nil, Option.bind_some, Option.map_some, List.set_cons_zero, List.set_cons_succ, List.getElem?_cons_zero, List.getElem?_cons_succ, List.replicate, List.cons_append, List.nil_append, List.append_nil, Nat.zero_add, Nat.add_one_sub_one, Nat.sub_self, putT, putS, if_true, and_self, sz0, sz1, sz2, sz3, sz5, sz6, wipeD, Nat.reduceAdd, Nat.reduceSub]
        · have e' : (h.set k (.lst (a.2.map dT)))[t]? = some (.lst (bs.map D.bl)) := by
            rw [List.getElem?_set_ne (fun z => hne z.symm)]; exact e
          simp only [exS, ev, evA, evO, evT, evC, evI_seq, evF_disp, evF_lst, evF_slk, evF_cat, cn_cf, startD, bltD, lenD, Cr.intD, tupleD, sumD, anyD, allD, absD, minD, maxD, gcdD, binD, cmpD, truD, idxD, isiD, mthD, isN, List.map_cons, List.map_nil, List.length_cons, List.length_nil, Option.bind_some, Option.map_some, List.set_cons_zero, List.set_cons_succ, List.getElem?_cons_zero, List.getElem?_cons_succ, List.replicate, List.cons_append, List.nil_append, List.append_nil, Nat.zero_add, Nat.add_one_sub_one, Nat.sub_self, putT, putS, if_true, and_self, sz0, sz1, sz2, sz3, sz5, sz6, wipeD, Nat.reduceAdd, Nat.reduceSub, e']
      have s1 : exS (cn T (n + 1)) (.set 3 (.call f (.cons (.pl (.slk (.var 0) 0 2)) (.cons (.bin .Add (.var 1) (.cst (.int 1))) (.cons (.var 2) .nil))))) [some o, some (dN p), some (.ref k), none, none, none] h = some (.nx, [some o, some (dN p), some (.ref k), some (dN a.1), none, none], h.set k (.lst (a.2.map dT))) :=
        exS_set ((ev_call (evA_cons (ev_pl sl0) (evA_cons (d := dN (p + 1)) (h1 := h) (by simp only [exS, ev, evA, evO, evT, evC, evI_seq, evF_disp, evF_lst, evF_slk, evF_cat, cn_cf, startD, bltD, lenD, Cr.intD, tupleD, sumD, anyD, allD, absD, minD, maxD, gcdD, binD, cmpD, truD, idxD, isiD, mthD, isN, List.map_cons, List.map_nil, List.length_cons, List.length_nil, Option.bind_some, Option.map_some, List.set_cons_zero, List.set_cons_succ, List.getElem?_cons_zero, List.getElem?_cons_succ, List.replicate, List.cons_append, List.nil_append, List.append_nil, Nat.zero_add, Nat.add_one_sub_one, Nat.sub_self, putT, putS, if_true, and_self, sz0, sz1, sz2, sz3, sz5, sz6, wipeD, Nat.reduceAdd, Nat.reduceSub, dN, epn]) (evA_one (d := .ref k) (h1 := h) (by simp only [exS, ev, evA, evO, evT, evC, evI_seq, evF_disp, evF_lst, evF_slk, evF_cat, cn_cf, startD, bltD, lenD, Cr.intD, tupleD, sumD, anyD, allD, absD, minD, maxD, gcdD, binD, cmpD, truD, idxD, isiD, mthD, isN, List.map_cons, List.map_nil, List.length_cons, List.length_nil, Option.bind_some, Option.map_some, List.set_cons_zero, List.set_cons_succ, List.getElem?_cons_zero, List.getElem?_cons_succ, List.replicate, List.cons_append, List.nil_append, List.append_nil, Nat.zero_add, Nat.add_one_sub_one, Nat.sub_self, putT, putS, if_true, and_self, sz0, sz1, sz2, sz3, sz5, sz6, wipeD, Nat.reduceAdd, Nat.reduceSub]))))).trans c1)
      have s2 : exS (cn T (n + 1)) (.set 4 (.call f (.cons (.pl (.slk (.var 0) 1 2)) (.cons (.bin .Add (.var 1) (.cst (.int 1))) (.cons (.var 2) .nil))))) [some o, some (dN p), some (.ref k), some (dN a.1), none, none] (h.set k (.lst (a.2.map dT))) = some (.nx, [some o, some (dN p), some (.ref k), some (dN a.1), some (dN b.1), none], h.set k (.lst (b.2.map dT))) :=
        exS_set ((ev_call (evA_cons (ev_pl sl1) (evA_cons (d := dN (p + 1)) (h1 := h.set k (.lst (a.2.map dT))) (by simp only [exS, ev, evA, evO, evT, evC, evI_seq, evF_disp, evF_lst, evF_slk, evF_cat, cn_cf, startD, bltD, lenD, Cr.intD, tupleD, sumD, anyD, allD, absD, minD, maxD, gcdD, binD, cmpD, truD, idxD, isiD, mthD, isN, List.map_cons, List.map_nil, List.length_cons, List.length_nil, Option.bind_some, Option.map_some, List.set_cons_zero, List.set_cons_succ, List.getElem?_cons_zero, List.getElem?_cons_succ, List.replicate, List.cons_append, List.nil_append, List.append_nil, Nat.zero_add, Nat.add_one_sub_one, Nat.sub_self, putT, putS, if_true, and_self, sz0, sz1, sz2, sz3, sz5, sz6, wipeD, Nat.reduceAdd, Nat.reduceSub, dN, epn]) (evA_one (d := .ref k) (h1 := h.set k (.lst (a.2.map dT))) (by simp only [exS, ev, evA, evO, evT, evC, evI_seq, evF_disp, evF_lst, evF_slk, evF_cat, cn_cf, startD, bltD, lenD, Cr.intD, tupleD, sumD, anyD, allD, absD, minD, maxD, gcdD, binD, cmpD, truD, idxD, isiD, mthD, isN, List.map_cons, List.map_nil, List.length_cons, List.length_nil, Option.bind_some, Option.map_some, List.set_cons_zero, List.set_cons_succ, List.getElem?_cons_zero, List.getElem?_cons_succ, List.replicate, List.cons_append, List.nil_append, List.append_nil, Nat.zero_add, Nat.add_one_sub_one, Nat.sub_self, putT, putS, if_true, and_self, sz0, sz1, sz2, sz3, sz5, sz6, wipeD, Nat.reduceAdd, Nat.reduceSub]))))).trans c2)
      have hk3 : (h.set k (.lst (b.2.map dT)))[k]? = some (.lst (b.2.map dT)) := List.getElem?_set_self hkl
      have lb2 : b.2.length ≤ 1000 := by rw [Nat.pow_succ] at hsz; omega
      have eq1 : evT (cn T (n + 1)) (.cmp .Eq (.var 3) (.var 4)) [some o, some (dN p), some (.ref k), some (dN a.1), some (dN b.1), none] (h.set k (.lst (b.2.map dT))) = some (decide (a.1 = b.1), h.set k (.lst (b.2.map dT))) := by
        simp only [exS, ev, evA, evO, evT, evC, evI_seq, evF_disp, evF_lst, evF_slk, evF_cat, cn_cf, startD, bltD, lenD, Cr.intD, tupleD, sumD, anyD, allD, absD, minD, maxD, gcdD, binD, cmpD, truD, idxD, isiD, mthD, isN, List.map_cons, List.map_nil, List.length_cons, List.length_nil, Option.bind_some, Option.map_some, List.set_cons_zero, List.set_cons_succ, List.getElem?_cons_zero, List.getElem?_cons_succ, List.replicate, List.cons_append, List.nil_append, List.append_nil, Nat.zero_add, Nat.add_one_sub_one, Nat.sub_self, putT, putS, if_true, and_self, sz0, sz1, sz2, sz3, sz5, sz6, wipeD, Nat.reduceAdd, Nat.reduceSub, dN, eqD_int, nat_beq]
      by_cases hab : a.1 = b.1
      · rw [if_pos hab]
        rw [decide_eq_true hab] at eq1
        refine H.rt rfl ⟨[some o, some (dN p), some (.ref k), some (dN a.1), some (dN b.1), none], ?_⟩ (leave_set rfl (pure_T _))
        show exB (cn T (n + 1)) (Bnode f) [some o, some (dN p), some (.ref k), none, none, none] h = _
        rw [Bnode, exB_cons ((exS_ifF eall).trans exB_nil), exB_cons ((exS_ifF en).trans exB_nil), exB_cons s1, exB_cons s2]
        exact exB_rt ((exS_ifT eq1).trans rfl)
      · rw [if_neg hab]
        rw [decide_eq_false hab] at eq1
        have s3 : exS (cn T (n + 1)) (.set 5 (.tup (.cons (.var 1) (.cons (.var 3) (.cons (.var 4) .nil))))) [some o, some (dN p), some (.ref k), some (dN a.1), some (dN b.1), none] (h.set k (.lst (b.2.map dT))) = some (.nx, [some o, some (dN p), some (.ref k), some (dN a.1), some (dN b.1), some (dT (p, a.1, b.1))], h.set k (.lst (b.2.map dT))) := by
          simp only [exS, ev, evA, evO, evT, evC, evI_seq, evF_disp, evF_lst, evF_slk, evF_cat, cn_cf, startD, bltD, lenD, Cr.intD, tupleD, sumD, anyD, allD, absD, minD, maxD, gcdD, binD, cmpD, truD, idxD, isiD, mthD, isN, List.map_cons, List.map_nil, List.length_cons, List.length_nil, Option.bind_some, Option.map_some, List.set_cons_zero, List.set_cons_succ, List.getElem?_cons_zero, List.getElem?_cons_succ, List.replicate, List.cons_append, List.nil_append, List.append_nil, Nat.zero_add, Nat.add_one_sub_one, Nat.sub_self, putT, putS, if_true, and_self, sz0, sz1, sz2, sz3, sz5, sz6, wipeD, Nat.reduceAdd, Nat.reduceSub]
          rfl
        have ein : inD (h.set k (.lst (b.2.map dT))) (dT (p, a.1, b.1)) (.ref k) = some (decide ((p, a.1, b.1) ∈ b.2)) := by
          simp only [inD, hk3, okD_T, okD_Ts, memD_T, Bool.and_self, Bool.or_true, if_true]
        have en2 : evT (cn T (n + 1)) (.cmp .NotIn (.var 5) (.var 2)) [some o, some (dN p), some (.ref k), some (dN a.1), some (dN b.1), some (dT (p, a.1, b.1))] (h.set k (.lst (b.2.map dT))) = some (!decide ((p, a.1, b.1) ∈ b.2), h.set k (.lst (b.2.map dT))) := by
          simp only [exS, ev, evA, evO, evT, evC, evI_seq, evF_disp, evF_lst, evF_slk, evF_cat, cn_cf, startD, bltD, lenD, Cr.intD, tupleD, sumD, anyD, allD, absD, minD, maxD, gcdD, binD, cmpD, truD, idxD, isiD, mthD, isN, List.map_cons, List.map_nil, List.length_cons, List.length_nil, Option.bind_some, Option.map_some, List.set_cons_zero, List.set_cons_succ, List.getElem?_cons_zero, List.getElem?_cons_succ, List.replicate, List.cons_append, List.nil_append, List.append_nil, Nat.zero_add, Nat.add_one_sub_one, Nat.sub_self, putT, putS, if_true, and_self, sz0, sz1, sz2, sz3, sz5, sz6, wipeD, Nat.reduceAdd, Nat.reduceSub, ein]
        have s4 : exS (cn T (n + 1)) (.ife (.cmp .NotIn (.var 5) (.var 2)) (.cons (.exp (.mth .append (.var 2) (.cons (.var 5) .nil))) .nil) .nil) [some o, some (dN p), some (.ref k), some (dN a.1), some (dN b.1), some (dT (p, a.1, b.1))] (h.set k (.lst (b.2.map dT))) =
            some (.nx, [some o, some (dN p), some (.ref k), some (dN a.1), some (dN b.1), some (dT (p, a.1, b.1))], h.set k (.lst ((addT (p, a.1, b.1) b.2).map dT))) := by
          by_cases hm : (p, a.1, b.1) ∈ b.2
          · rw [decide_eq_true hm] at en2
            rw [exS_ifF en2, addT, if_pos hm]
            rfl
          · rw [decide_eq_false hm] at en2
            rw [exS_ifT en2, addT, if_neg hm, List.map_append]
            have hz : ((b.2.map dT).length < sizeLine) = True := eq_true (by
              rw [List.length_map]
              have := sz_le (show b.2.length + 1 ≤ 1000000 by omega)
              omega)
            rw [exB_cons (exS_exp (d := .non) (h1 := h.set k (.lst (b.2.map dT ++ [dT (p, a.1, b.1)]))) (by
              simp only [exS, ev, evA, evO, evT, evC, evI_seq, evF_disp, evF_lst, evF_slk, evF_cat, cn_cf, startD, bltD, lenD, Cr.intD, tupleD, sumD, anyD, allD, absD, minD, maxD, gcdD, binD, cmpD, truD, idxD, isiD, mthD, isN, List.map_cons, List.map_nil, List.length_cons, List.length_nil, Option.bind_some, Option.map_some, List.set_cons_zero, List.set_cons_succ, List.getElem?_cons_zero, List.getElem?_cons_succ, List.replicate, List.cons_append, List.nil_append, List.append_nil, Nat.zero_add, Nat.add_one_sub_one, Nat.sub_self, putT, putS, if_true, and_self, sz0, sz1, sz2, sz3, sz5, sz6, wipeD, Nat.reduceAdd, Nat.reduceSub, lstOf, hk3, appendD, hz, List.set_set]))]
            rfl
        have hk4 : (h.set k (.lst ((addT (p, a.1, b.1) b.2).map dT)))[k]? = some (.lst ((addT (p, a.1, b.1) b.2).map dT)) := List.getElem?_set_self hkl
        have eix : indexD (h.set k (.lst ((addT (p, a.1, b.1) b.2).map dT))) (.ref k) [dT (p, a.1, b.1)] = some (.int (posT (p, a.1, b.1) (addT (p, a.1, b.1) b.2) : Nat), h.set k (.lst ((addT (p, a.1, b.1) b.2).map dT))) := by
          simp only [indexD, lstOf, hk4, Option.bind_some, okD_T, okD_Ts, Bool.and_self, Bool.or_true, if_true, findD_T (addT_mem _ _), Option.map_some, Nat.zero_add]
        refine H.rt rfl ⟨[some o, some (dN p), some (.ref k), some (dN a.1), some (dN b.1), some (dT (p, a.1, b.1))], ?_⟩ (leave_set rfl (pure_T _))
        show exB (cn T (n + 1)) (Bnode f) [some o, some (dN p), some (.ref k), none, none, none] h = _
        rw [Bnode, exB_cons ((exS_ifF eall).trans exB_nil), exB_cons ((exS_ifF en).trans exB_nil), exB_cons s1, exB_cons s2, exB_cons ((exS_ifF eq1).trans exB_nil), exB_cons s3, exB_cons s4]
        refine exB_rt (exS_ret ?_)
        simp only [exS, ev, evA, evO, evT, evC, evI_seq, evF_disp, evF_lst, evF_slk, evF_cat, cn_cf, startD, bltD, lenD, Cr.intD, tupleD, sumD, anyD, allD, absD, minD, maxD, gcdD, binD, cmpD, truD, idxD, isiD, mthD, isN, List.map_cons, List.map_nil, List.length_cons, List.length_nil, Option.bind_some, Option.map_some, List.set_cons_zero, List.set_cons_succ, List.getElem?_cons_zero, List.getElem?_cons_succ, List.replicate, List.cons_append, List.nil_append, List.append_nil, Nat.zero_add, Nat.add_one_sub_one, Nat.sub_self, putT, putS, if_true, and_self, sz0, sz1, sz2, sz3, sz5, sz6, wipeD, Nat.reduceAdd, Nat.reduceSub, lstOf, hk4, eix]
        rfl
end
end Cr
/-! The plain law of the diagrams: the fraction at a node is the weight of its table. -/
namespace Cr
open PySem PySem.Spec PyProof.Rows L2
/-! ### fractions -/
theorem lowP_val {a b : Nat} (hb : 0 < b) : (lowP a b).1 * b = a * (lowP a b).2 ∧ 0 < (lowP a b).2 ∧ Nat.gcd (lowP a b).1 (lowP a b).2 = 1 := by
  have hg := Nat.gcd_pos_of_pos_right a hb
  obtain ⟨x, hx⟩ := Nat.gcd_dvd_left a b
  obtain ⟨y, hy⟩ := Nat.gcd_dvd_right a b
  refine ⟨?_, lowP_pos hb, ?_⟩
  · unfold lowP
    show a / Nat.gcd a b * b = a * (b / Nat.gcd a b)
    generalize Nat.gcd a b = g at *
    subst hx
    rw [Nat.mul_div_cancel_left _ hg]
    have : b / g = y := by rw [hy, Nat.mul_div_cancel_left _ hg]
    rw [this]
    conv => lhs; rw [hy]
    grind
  · exact Nat.gcd_div_gcd_div_gcd_of_pos_right hb
/-- x is N over M -/
def Fr (x : Nat × Nat) (N M : Nat) : Prop := x.1 * M = N * x.2 ∧ 0 < x.2
theorem lowP_fr {a b N M : Nat} (hb : 0 < b) (h : a * M = N * b) : Fr (lowP a b) N M := by
  obtain ⟨h1, h2, _⟩ := lowP_val (a := a) hb
  refine ⟨Nat.eq_of_mul_eq_mul_right hb ?_, h2⟩
  have : (lowP a b).1 * M * b = (lowP a b).1 * b * M := by grind
  rw [this, h1]
  have : a * (lowP a b).2 * M = a * M * (lowP a b).2 := by grind
  rw [this, h]
  grind
theorem timesP_fr {x y : Nat × Nat} {N M N' M' : Nat} (hx : Fr x N M) (hy : Fr y N' M') : Fr (timesP x y) (N * N') (M * M') := by
  obtain ⟨h1, h2⟩ := hx
  obtain ⟨h3, h4⟩ := hy
  refine lowP_fr (Nat.mul_pos h2 h4) ?_
  have : x.1 * y.1 * (M * M') = (x.1 * M) * (y.1 * M') := by grind
  rw [this, h1, h3]
  grind
theorem plusP_fr {x y : Nat × Nat} {N N' M : Nat} (hM : 0 < M) (hx : Fr x N M) (hy : Fr y N' M) : Fr (plusP x y) (N + N') M := by
  obtain ⟨h1, h2⟩ := hx
  obtain ⟨h3, h4⟩ := hy
  refine lowP_fr (Nat.mul_pos h2 h4) ?_
  have : (x.1 * y.2 + y.1 * x.2) * M = (x.1 * M) * y.2 + (y.1 * M) * x.2 := by grind
  rw [this, h1, h3]
  grind
theorem step_fr {c A B M : Nat} {vw vi : Nat × Nat} (hM : 0 < M) (hw : Fr vw A M) (hi : Fr vi B M) :
    Fr (plusP (timesP (lowP (1000 - c) 1000) vw) (timesP (lowP c 1000) vi)) ((1000 - c) * A + c * B) (1000 * M) :=
  plusP_fr (Nat.mul_pos (by decide) hM) (timesP_fr (lowP_fr (by decide) rfl) hw) (timesP_fr (lowP_fr (by decide) rfl) hi)
theorem plusP_gcd {x y : Nat × Nat} (hx : 0 < x.2) (hy : 0 < y.2) : Nat.gcd (plusP x y).1 (plusP x y).2 = 1 := (lowP_val (Nat.mul_pos hx hy)).2.2
theorem Fr.scale {x : Nat × Nat} {N M : Nat} (h : Fr x N M) (k : Nat) : Fr x (N * k) (M * k) := by
  refine ⟨?_, h.2⟩
  have : x.1 * (M * k) = (x.1 * M) * k := by grind
  rw [this, h.1]
  grind
theorem Fr.bound {x : Nat × Nat} {N e : Nat} (h : Fr x N (1000 ^ e)) (hg : Nat.gcd x.1 x.2 = 1) (hN : N ≤ 1000 ^ e) (he : e ≤ 5) : x.1 < 2 ^ 50 ∧ x.2 < 2 ^ 50 := by
  have hd : x.2 ∣ 1000 ^ e := by
    have h1 : x.2 ∣ x.1 * 1000 ^ e := ⟨N, by rw [h.1, Nat.mul_comm]⟩
    exact Nat.Coprime.dvd_of_dvd_mul_left (Nat.Coprime.symm hg) h1
  have hpos : 0 < 1000 ^ e := Nat.pow_pos (by decide)
  have hle : x.2 ≤ 1000 ^ e := Nat.le_of_dvd hpos hd
  have h5 : 1000 ^ e ≤ 1000 ^ 5 := Nat.pow_le_pow_right (by decide) he
  have h6 : (1000 : Nat) ^ 5 < 2 ^ 50 := by decide +kernel
  have h7 : x.1 ≤ x.2 := by
    refine Nat.le_of_mul_le_mul_right ?_ hpos
    rw [h.1, Nat.mul_comm x.2]
    exact Nat.mul_le_mul_right _ hN
  omega
/-! ### nodes in order -/
abbrev Nd := Nat × Nat × Nat
def plc (m : Nat) (ns : List Nd) : Nat → Nat
  | j + 2 => match ns[j]? with | some r => r.1 | none => m
  | _ => m
structure Wf (m : Nat) (ns : List Nd) : Prop where
  ok : ∀ (j p w i : Nat), ns[j]? = some (p, w, i) → p < m ∧ w < j + 2 ∧ i < j + 2 ∧ p < plc m ns w ∧ p < plc m ns i
theorem plc_at {m : Nat} {ns : List Nd} {j : Nat} : plc m ns (j + 2) = match ns[j]? with | some r => r.1 | none => m := rfl
theorem plc_app {m : Nat} {ns ex : List Nd} {k : Nat} (h : k < ns.length + 2) : plc m (ns ++ ex) k = plc m ns k := by
  match k, h with
  | 0, _ => rfl
  | 1, _ => rfl
  | j + 2, h =>
    rw [plc_at, plc_at, List.getElem?_append_left (by omega)]
theorem addT_app (r : Nd) (ns : List Nd) : ∃ ex, addT r ns = ns ++ ex := by
  unfold addT
  split
  · exact ⟨[], (List.append_nil ns).symm⟩
  · exact ⟨[r], rfl⟩
theorem nodeP_wf {m : Nat} : ∀ (d : Nat) (bs : List Bool) (p : Nat) (ns : List Nd), p + d = m → Wf m ns →
    Wf m (nodeP d bs p ns).2 ∧ (∃ ex, (nodeP d bs p ns).2 = ns ++ ex) ∧ (nodeP d bs p ns).1 < (nodeP d bs p ns).2.length + 2 ∧ p ≤ plc m (nodeP d bs p ns).2 (nodeP d bs p ns).1
  | 0, bs, p, ns, hp, W => by
    unfold nodeP
    refine ⟨W, ⟨[], (List.append_nil ns).symm⟩, ?_, ?_⟩
    · show (if bs.all id = true then 1 else 0) < ns.length + 2
      split <;> omega
    · show p ≤ plc m ns (if bs.all id = true then 1 else 0)
      split
      · show p ≤ m; omega
      · show p ≤ m; omega
  | d + 1, bs, p, ns, hp, W => by
    obtain ⟨a1, ⟨ea, a2⟩, a3, a4⟩ := nodeP_wf d (ev2 bs) (p + 1) ns (by omega) W
    generalize ha : nodeP d (ev2 bs) (p + 1) ns = a at a1 a2 a3 a4
    obtain ⟨b1, ⟨eb, b2⟩, b3, b4⟩ := nodeP_wf d (od2 bs) (p + 1) a.2 (by omega) a1
    generalize hb : nodeP d (od2 bs) (p + 1) a.2 = b at b1 b2 b3 b4
    unfold nodeP
    rw [ha]
    dsimp only
    rw [hb]
    split
    · exact ⟨W, ⟨[], (List.append_nil ns).symm⟩, by show 1 < _; omega, by show p ≤ m; omega⟩
    · split
      rotate_left
      · exact ⟨W, ⟨[], (List.append_nil ns).symm⟩, by show 0 < _; omega, by show p ≤ m; omega⟩
      · have ap : plc m b.2 a.1 = plc m a.2 a.1 := by rw [b2]; exact plc_app a3
        have al : a.1 < b.2.length + 2 := by rw [b2, List.length_append]; omega
        split
        · refine ⟨b1, ⟨ea ++ eb, by rw [b2, a2, List.append_assoc]⟩, al, ?_⟩
          show p ≤ plc m b.2 a.1
          rw [ap]; omega
        · obtain ⟨ec, e3⟩ := addT_app (p, a.1, b.1) b.2
          have hm := addT_mem (p, a.1, b.1) b.2
          have hg := posT_get hm
          have hlt := (List.getElem?_eq_some_iff.mp hg).1
          have wf : Wf m (addT (p, a.1, b.1) b.2) := by
            unfold addT
            split
            · exact b1
            · refine ⟨fun j q w i e => ?_⟩
              by_cases hj : j < b.2.length
              · rw [List.getElem?_append_left hj] at e
                obtain ⟨k1, k2, k3, k4, k5⟩ := b1.ok j q w i e
                exact ⟨k1, k2, k3, by rw [plc_app (by omega)]; exact k4, by rw [plc_app (by omega)]; exact k5⟩
              · have h5 := (List.getElem?_eq_some_iff.mp e).1
                rw [List.length_append, List.length_singleton] at h5
                have h6 : j = b.2.length := by omega
                subst h6
                rw [List.getElem?_append_right (Nat.le_refl _), Nat.sub_self] at e
                cases e
                exact ⟨by omega, al, b3, by rw [plc_app al, ap]; omega, by rw [plc_app b3]; omega⟩
          refine ⟨wf, ⟨ea ++ eb ++ ec, e3.trans (by rw [b2, a2]; simp only [List.append_assoc])⟩, by show posT _ _ + 2 < (addT _ _).length + 2; omega, ?_⟩
          show p ≤ plc m (addT (p, a.1, b.1) b.2) (posT (p, a.1, b.1) (addT (p, a.1, b.1) b.2) + 2)
          rw [plc_at, hg]
          exact Nat.le_refl _
/-! ### the fractions of the nodes -/
structure Good (m : Nat) (ns : List Nd) (vals : List (Nat × Nat)) : Prop where
  ok : ∀ (k : Nat) (v : Nat × Nat), vals[k]? = some v → Nat.gcd v.1 v.2 = 1 ∧ ∃ X, X ≤ 1000 ^ (m - plc m ns k) ∧ Fr v X (1000 ^ (m - plc m ns k))
theorem vals_of {m : Nat} {ns : List Nd} {cs : List Nat} (W : Wf m ns) (hm : m ≤ 5) (hl : cs.length = m) (hc : ∀ c ∈ cs, c ≤ 1000) : ∀ k, k ≤ ns.length → ∃ vals, ValsOf (ns.take k) cs vals ∧ Good m ns vals
  | 0, _ => by
    refine ⟨[(0, 1), (1, 1)], ⟨rfl, rfl, rfl, hc, fun v hv => ?_, fun j p w i e => by simp at e⟩, ⟨fun k v e => ?_⟩⟩
    · rcases List.mem_cons.mp hv with e | hv
      · subst e; decide
      · rw [List.mem_singleton.mp hv]; decide
    · match k, e with
      | 0, e =>
        cases e
        exact ⟨rfl, 0, Nat.zero_le _, by simp, by decide⟩
      | 1, e =>
        cases e
        refine ⟨rfl, 1, Nat.pow_pos (by decide), ?_, by decide⟩
        show 1 * 1000 ^ (m - m) = 1 * 1
        rw [Nat.sub_self]
      | k + 2, e => simp at e
  | k + 1, hk => by
    obtain ⟨vals, V, G⟩ := vals_of W hm hl hc k (by omega)
    have hk' : k < ns.length := by omega
    obtain ⟨⟨p, w, i⟩, er⟩ : ∃ r, ns[k]? = some r := ⟨_, List.getElem?_eq_getElem hk'⟩
    obtain ⟨k1, k2, k3, k4, k5⟩ := W.ok k p w i er
    have vl : vals.length = k + 2 := by rw [V.len, List.length_take]; omega
    obtain ⟨vw, ew⟩ : ∃ v, vals[w]? = some v := ⟨_, List.getElem?_eq_getElem (by omega)⟩
    obtain ⟨vi, ei⟩ : ∃ v, vals[i]? = some v := ⟨_, List.getElem?_eq_getElem (by omega)⟩
    obtain ⟨c, ec⟩ : ∃ c, cs[p]? = some c := ⟨_, List.getElem?_eq_getElem (by omega)⟩
    have hcc := hc c (List.mem_of_getElem? ec)
    obtain ⟨gw, Xw, xw1, xw2⟩ := G.ok w vw ew
    obtain ⟨gi, Xi, xi1, xi2⟩ := G.ok i vi ei
    -- both over 1000 ^ (m - p - 1)
    have up : ∀ {q X : Nat} {v : Nat × Nat}, p < q → X ≤ 1000 ^ (m - q) → Fr v X (1000 ^ (m - q)) → ∃ Y, Y ≤ 1000 ^ (m - p - 1) ∧ Fr v Y (1000 ^ (m - p - 1)) := by
      intro q X v hq hX hF
      by_cases hqm : q ≤ m
      · have e : 1000 ^ (m - q) * 1000 ^ (q - p - 1) = 1000 ^ (m - p - 1) := by
          rw [← Nat.pow_add]
          congr 1
          omega
        refine ⟨X * 1000 ^ (q - p - 1), ?_, ?_⟩
        · rw [← e]; exact Nat.mul_le_mul_right _ hX
        · rw [← e]; exact hF.scale _
      · have e : m - q = 0 := by omega
        rw [e] at hX hF
        refine ⟨X * 1000 ^ (m - p - 1), ?_, ?_⟩
        · have := Nat.mul_le_mul_right (1000 ^ (m - p - 1)) hX
          rw [Nat.pow_zero, Nat.one_mul] at this
          exact this
        · have := hF.scale (1000 ^ (m - p - 1))
          rw [Nat.pow_zero, Nat.one_mul] at this
          exact this
    obtain ⟨A, a1, a2⟩ := up k4 xw1 xw2
    obtain ⟨B, b1, b2⟩ := up k5 xi1 xi2
    have hM : 0 < 1000 ^ (m - p - 1) := Nat.pow_pos (by decide)
    have sf := step_fr (c := c) hM a2 b2
    have eM : 1000 * 1000 ^ (m - p - 1) = 1000 ^ (m - p) := by
      rw [← Nat.pow_succ']
      congr 1
      omega
    rw [eM] at sf
    have hX : (1000 - c) * A + c * B ≤ 1000 ^ (m - p) := by
      rw [← eM]
      have h1 := Nat.mul_le_mul_left (1000 - c) a1
      have h2 := Nat.mul_le_mul_left c b1
      have h3 : (1000 - c) * 1000 ^ (m - p - 1) + c * 1000 ^ (m - p - 1) = 1000 * 1000 ^ (m - p - 1) := by
        rw [← Nat.add_mul]
        congr 1
        omega
      omega
    obtain ⟨w1, w2, w3⟩ := V.ok vw (List.mem_of_getElem? ew)
    obtain ⟨i1, i2, i3⟩ := V.ok vi (List.mem_of_getElem? ei)
    have tw := times_b (c := 1000 - c) w1 w2 w3 (by omega)
    have ti := times_b (c := c) i1 i2 i3 hcc
    have hg : Nat.gcd (plusP (timesP (lowP (1000 - c) 1000) vw) (timesP (lowP c 1000) vi)).1 (plusP (timesP (lowP (1000 - c) 1000) vw) (timesP (lowP c 1000) vi)).2 = 1 := plusP_gcd tw.1 ti.1
    generalize hv : plusP (timesP (lowP (1000 - c) 1000) vw) (timesP (lowP c 1000) vi) = v at sf hg
    have hb := sf.bound hg hX (by omega)
    refine ⟨vals ++ [v], ⟨?_, ?_, ?_, hc, fun u hu => ?_, fun j q w' i' e => ?_⟩, ⟨fun j u e => ?_⟩⟩
    · rw [List.length_append, vl, List.length_take, List.length_singleton]; omega
    · rw [List.getElem?_append_left (by omega)]; exact V.v0
    · rw [List.getElem?_append_left (by omega)]; exact V.v1
    · rcases List.mem_append.mp hu with hu | hu
      · exact V.ok u hu
      · rw [List.mem_singleton.mp hu]; exact ⟨sf.2, hb.1, hb.2⟩
    · rw [take_snoc er] at e
      have hlen : (ns.take k).length = k := by rw [List.length_take]; omega
      by_cases hj : j < k
      · rw [List.getElem?_append_left (by omega)] at e
        obtain ⟨q1, q2, c', vw', vi', e1, e2, e3, e4⟩ := V.node j q w' i' e
        exact ⟨q1, q2, c', vw', vi', e1, by rw [List.getElem?_append_left (by omega)]; exact e2, by rw [List.getElem?_append_left (by omega)]; exact e3, by rw [List.getElem?_append_left (by omega)]; exact e4⟩
      · have h5 := (List.getElem?_eq_some_iff.mp e).1
        rw [List.length_append, List.length_singleton] at h5
        have h6 : j = k := by omega
        subst h6
        rw [List.getElem?_append_right (by omega), hlen, Nat.sub_self] at e
        cases e
        exact ⟨k2, k3, c, vw, vi, ec, by rw [List.getElem?_append_left (by omega)]; exact ew, by rw [List.getElem?_append_left (by omega)]; exact ei, by
          rw [List.getElem?_append_right (by omega), vl, Nat.sub_self, hv]
          rfl⟩
    · by_cases hj : j < k + 2
      · rw [List.getElem?_append_left (by omega)] at e
        exact G.ok j u e
      · have h5 := (List.getElem?_eq_some_iff.mp e).1
        rw [List.length_append, List.length_singleton] at h5
        have h6 : j = k + 2 := by omega
        subst h6
        rw [List.getElem?_append_right (by omega), vl, Nat.sub_self] at e
        cases e
        have e7 : plc m ns (k + 2) = p := by rw [plc_at, er]
        rw [e7]
        exact ⟨hg, _, hX, sf⟩
/-! ### what a node is worth -/
theorem node_val {m : Nat} {cs : List Nat} {NS : List Nd} {vals : List (Nat × Nat)} (V : ValsOf NS cs vals) : ∀ (d : Nat) (bs : List Bool) (p : Nat) (ns : List Nd), bs.length = 2 ^ d → p + d = m → Wf m ns → (∃ ex, NS = (nodeP d bs p ns).2 ++ ex) →
    ∀ v, vals[(nodeP d bs p ns).1]? = some v → Fr v (VT cs d bs p) (1000 ^ d)
  | d, bs, p, ns, hl, hp, W, hN, v, hv => by
    have hc : ∀ p, cs.getD p 0 ≤ 1000 := fun p => by
      rw [List.getD_eq_getElem?_getD]
      cases e : cs[p]? with
      | none => exact Nat.zero_le _
      | some c => exact V.cle c (List.mem_of_getElem? e)
    by_cases h1 : bs.all id = true
    · have e : (nodeP d bs p ns).1 = 1 := by
        cases d with
        | zero => unfold nodeP; show (if _ then 1 else 0) = 1; rw [if_pos h1]
        | succ d => unfold nodeP; rw [if_pos h1]
      rw [e, V.v1] at hv
      cases hv
      rw [VT_true hc d bs p hl (fun b hb => List.all_eq_true.mp h1 b hb)]
      exact ⟨by rw [Nat.mul_comm], by decide⟩
    by_cases h2 : bs.any id = true
    rotate_left
    · have e : (nodeP d bs p ns).1 = 0 := by
        cases d with
        | zero => unfold nodeP; show (if _ then 1 else 0) = 0; rw [if_neg h1]
        | succ d => unfold nodeP; rw [if_neg h1, if_neg h2]
      rw [e, V.v0] at hv
      cases hv
      rw [VT_false d bs p (fun b hb => by
        cases b with
        | false => rfl
        | true => exact absurd (List.any_eq_true.mpr ⟨true, hb, rfl⟩) h2)]
      exact ⟨by simp, by decide⟩
    cases d with
    | zero =>
      exfalso
      match bs, hl with
      | [b], _ => cases b <;> simp at h1 h2
    | succ d =>
      have hl2 : bs.length = 2 * 2 ^ d := by rw [hl, Nat.pow_succ]; omega
      obtain ⟨le, lo⟩ := ev2_len _ bs hl2
      obtain ⟨a1, ⟨ea, a2⟩, a3, a4⟩ := nodeP_wf (m := m) d (ev2 bs) (p + 1) ns (by omega) W
      have iha := node_val (m := m) V d (ev2 bs) (p + 1) ns le (by omega) W
      generalize ha : nodeP d (ev2 bs) (p + 1) ns = a at a1 a2 a3 a4 iha
      obtain ⟨b1, ⟨eb, b2⟩, b3, b4⟩ := nodeP_wf (m := m) d (od2 bs) (p + 1) a.2 (by omega) a1
      have ihb := node_val (m := m) V d (od2 bs) (p + 1) a.2 lo (by omega) a1
      generalize hb : nodeP d (od2 bs) (p + 1) a.2 = b at b1 b2 b3 b4 ihb
      have eN : nodeP (d + 1) bs p ns = (if a.1 = b.1 then (a.1, b.2) else (posT (p, a.1, b.1) (addT (p, a.1, b.1) b.2) + 2, addT (p, a.1, b.1) b.2)) := by
        unfold nodeP
        rw [if_neg h1, if_pos h2, ha]
        dsimp only
        rw [hb]
      rw [eN] at hN hv
      obtain ⟨ex, hN⟩ := hN
      by_cases hab : a.1 = b.1
      · rw [if_pos hab] at hN hv
        have fa := iha ⟨eb ++ ex, by rw [hN]; show b.2 ++ ex = _; rw [b2, List.append_assoc]⟩ v hv
        have fb := ihb ⟨ex, hN⟩ v (by rw [← hab]; exact hv)
        refine ⟨?_, fa.2⟩
        rw [VT, Nat.pow_succ]
        have e1 := fa.1
        have e2 := fb.1
        have hcp := hc p
        have e3 : v.1 * (1000 ^ d * 1000) = (1000 - cs.getD p 0) * (v.1 * 1000 ^ d) + cs.getD p 0 * (v.1 * 1000 ^ d) := by
          rw [← Nat.add_mul, Nat.sub_add_cancel hcp]
          grind
        rw [e3]
        conv => lhs; arg 1; rw [e1]
        rw [e2]
        grind
      · rw [if_neg hab] at hN hv
        have hN : NS = addT (p, a.1, b.1) b.2 ++ ex := hN
        have hv : vals[posT (p, a.1, b.1) (addT (p, a.1, b.1) b.2) + 2]? = some v := hv
        obtain ⟨ec, e3⟩ := addT_app (p, a.1, b.1) b.2
        have hg := posT_get (addT_mem (p, a.1, b.1) b.2)
        have hlt := (List.getElem?_eq_some_iff.mp hg).1
        have hgN : NS[posT (p, a.1, b.1) (addT (p, a.1, b.1) b.2)]? = some (p, a.1, b.1) := by
          rw [hN, List.getElem?_append_left hlt]; exact hg
        obtain ⟨_, _, c, vw, vi, e4, e5, e6, e7⟩ := V.node _ p a.1 b.1 hgN
        rw [hv] at e7
        cases e7
        have fa := iha ⟨eb ++ ec ++ ex, by rw [hN, e3, b2, List.append_assoc, List.append_assoc, List.append_assoc]⟩ vw e5
        have fb := ihb ⟨ec ++ ex, by rw [hN, e3, List.append_assoc]⟩ vi e6
        have ecc : cs.getD p 0 = c := by rw [List.getD_eq_getElem?_getD, e4]; rfl
        rw [VT, ecc, Nat.pow_succ', ]
        exact step_fr (Nat.pow_pos (by decide)) fa fb
end Cr
/-! Law functions 7: the table. -/
namespace Cr
open PySem PySem.Spec PyProof.Rows L2
section
variable {T : Tb} {n : Nat} {h : Hs}
def Ctab : CF := .comp [("_law_place", 7)] (.nm 7) (.rng1 (.var 1)) (.yes (.cmp .Eq (.bin .Mod (.bin .FloorDiv (.var 3) (.idx (.tup (.cons (.cst (.int 1)) (.cons (.cst (.int 2)) (.cons (.cst (.int 4)) (.cons (.cst (.int 8)) (.cons (.cst (.int 16)) .nil)))))) (.var 7))) (.cst (.int 2))) (.cst (.int 1)))) (.var 7)
def Cany (fi : Nat) : CF := .comp [("_law_row", 8)] (.nm 8) (.seq (.var 0)) .no (.call fi (.cons (.var 8) (.cons (.var 6) .nil)))
def Ltab (fi : Nat) : CB := (.cons (.set 6 (.pl Ctab)) (.cons (.ife (.cmp .Lt (.var 3) (.idx (.tup (.cons (.cst (.int 1)) (.cons (.cst (.int 2)) (.cons (.cst (.int 4)) (.cons (.cst (.int 8)) (.cons (.cst (.int 16)) (.cons (.cst (.int 32)) .nil))))))) (.var 1))) (.cons (.exp (.mth .append (.var 2) (.cons (.blt .any (.cons (.pl (Cany fi)) .nil)) .nil))) .nil) .nil) .nil))
def Btable (fi fn : Nat) : CB := (.cons (.set 2 (.bx (.disp .nil))) (.cons (.for_ (.nm 3) (.rng1 (.bin .Pow (.cst (.int 2)) (.cst (.int 5)))) (Ltab fi)) (.cons (.set 4 (.bx (.disp .nil))) (.cons (.set 5 (.call fn (.cons (.var 2) (.cons (.cst (.int 0)) (.cons (.var 4) .nil))))) (.cons (.ret (.tup (.cons (.blt .tuple (.cons (.var 4) .nil)) (.cons (.var 5) .nil)))) .nil)))))
theorem pows5 {k : Nat} (h : k < 5) : atI [D.int 1, .int 2, .int 4, .int 8, .int 16] (k : Int) = some (.int ((2 ^ k : Nat) : Int)) := by
  have hk : k = 0 ∨ k = 1 ∨ k = 2 ∨ k = 3 ∨ k = 4 := by omega
  rcases hk with rfl | rfl | rfl | rfl | rfl <;> exact atI_nat rfl
theorem pows6 {k : Nat} (h : k < 6) : atI [D.int 1, .int 2, .int 4, .int 8, .int 16, .int 32] (k : Int) = some (.int ((2 ^ k : Nat) : Int)) := by
  have hk : k = 0 ∨ k = 1 ∨ k = 2 ∨ k = 3 ∨ k = 4 ∨ k = 5 := by omega
  rcases hk with rfl | rfl | rfl | rfl | rfl | rfl <;> exact atI_nat rfl
theorem memb_comp {x0 x2 x4 x5 x6 x8 : Option D} {c : Cn} {m code : Nat} (hm : m ≤ 5) : evF c Ctab [x0, some (dN m), x2, some (dN code), x4, x5, x6, none, x8] h = some (dNs (membP m code), h) := by
  unfold Ctab
  rw [evF_comp (evI_rngN (m := m) (h1 := h) (by omega) (by simp only [exS, ev, evA, evO, evT, evC, evI_seq, evF_disp, evF_lst, evF_slk, evF_cat, cn_cf, startD, bltD, lenD, Cr.intD, tupleD, sumD, anyD, allD, absD, minD, maxD, gcdD, binD, cmpD, truD, idxD, isiD, mthD, isN, List.map_cons, List.map_nil, List.length_cons, List.length_nil, Option.bind_some, Option.map_some, List.set_cons_zero, List.set_cons_succ, List.getElem?_cons_zero, List.getElem?_cons_succ, List.replicate, List.cons_append, List.nil_append, List.append_nil, Nat.zero_add, Nat.add_one_sub_one, Nat.sub_self, putT, putS, if_true, and_self, sz0, sz1, sz2, sz3, sz5, sz6, wipeD, Nat.reduceAdd, Nat.reduceSub])) (by show (List.map _ _).length ≤ _; rw [List.length_map, List.length_range]; exact sz_le (by omega)), rng_dNs]
  refine Eq.trans (lcD_pure trivial (fun x => match x with | .int j => code / 2 ^ j.toNat % 2 == 1 | _ => false) id (fun x => [x0, some (dN m), x2, some (dN code), x4, x5, x6, some x, x8]) fun x hx => ?_) ?_
  · obtain ⟨k, hk, rfl⟩ := List.mem_map.mp hx
    have hk := List.mem_range.mp hk
    refine ⟨rfl, ?_, fun _ => by simp only [exS, ev, evA, evO, evT, evC, evI_seq, evF_disp, evF_lst, evF_slk, evF_cat, cn_cf, startD, bltD, lenD, Cr.intD, tupleD, sumD, anyD, allD, absD, minD, maxD, gcdD, binD, cmpD, truD, idxD, isiD, mthD, isN, List.map_cons, List.map_nil, List.length_cons, List.length_nil, Option.bind_some, Option.map_some, List.set_cons_zero, List.set_cons_succ, List.getElem?_cons_zero, List.getElem?_cons_succ, List.replicate, List.cons_append, List.nil_append, List.append_nil, Nat.zero_add, Nat.add_one_sub_one, Nat.sub_self, putT, putS, if_true, and_self, sz0, sz1, sz2, sz3, sz5, sz6, wipeD, Nat.reduceAdd, Nat.reduceSub]; rfl⟩
    have h1 := Nat.two_pow_pos k
    have h2 : 2 ^ k < 2 ^ 1000 := Nat.pow_lt_pow_right (by decide) (by omega)
    have e1 : ((code : Int) / ((2 ^ k : Nat) : Int)) % 2 = ((code / 2 ^ k % 2 : Nat) : Int) := by
      rw [Int.natCast_emod, Int.natCast_ediv]
      rfl
    have e2 : (((code / 2 ^ k % 2 : Nat) : Int) == 1) = (code / 2 ^ k % 2 == 1) := nat_beq (i := code / 2 ^ k % 2) (j := 1)
    have p2 : ((0 : Int) < 2) = True := eq_true (by decide)
    simp only [exS, ev, evA, evO, evT, evC, evI_seq, evF_disp, evF_lst, evF_slk, evF_cat, cn_cf, startD, bltD, lenD, Cr.intD, tupleD, sumD, anyD, allD, absD, minD, maxD, gcdD, binD, cmpD, truD, idxD, isiD, mthD, isN, List.map_cons, List.map_nil, List.length_cons, List.length_nil, Option.bind_some, Option.map_some, List.set_cons_zero, List.set_cons_succ, List.getElem?_cons_zero, List.getElem?_cons_succ, List.replicate, List.cons_append, List.nil_append, List.append_nil, Nat.zero_add, Nat.add_one_sub_one, Nat.sub_self, putT, putS, if_true, and_self, sz0, sz1, sz2, sz3, sz5, sz6, wipeD, Nat.reduceAdd, Nat.reduceSub, dN, pows5 (show k < 5 by omega), small_log h1 h2, p2, e1, eqD_int, e2, Int.toNat_natCast]
  · rw [List.map_id]
    congr 2
    unfold dNs membP
    rw [List.filter_map]
    congr 1
theorem any_comp {fi : Nat} (Hi : Has T fi Binside 2 3 true) {x1 x2 x3 x4 x5 x7 : Option D} {rows : List (List Nat)} {s : List Nat} (hr : ∀ r ∈ rows, r.length ≤ sizeLine) (hl : rows.length ≤ sizeLine) :
    evF (cn T (n + 1)) (Cany fi) [some (.lst (rows.map dS)), x1, x2, x3, x4, x5, some (.lst (dNs s)), x7, none] h = some (rows.map fun r => D.bl (insideB r s), h) := by
  unfold Cany
  rw [evF_comp (p := ⟨rows.map dS, fun _ => True⟩) (h1 := h) rfl (by show (rows.map dS).length ≤ _; rw [List.length_map]; exact hl)]
  refine Eq.trans (lcD_map trivial (fun x => match x with | .tup xs => .bl (xs.all fun y => memD (dNs s) y) | _ => .non) (fun x => [some (.lst (rows.map dS)), x1, x2, x3, x4, x5, some (.lst (dNs s)), x7, some x]) fun x hx => ?_) ?_
  · obtain ⟨r, hr', rfl⟩ := List.mem_map.mp hx
    refine ⟨rfl, ?_⟩
    simp only [exS, ev, evA, evO, evT, evC, evI_seq, evF_disp, evF_lst, evF_slk, evF_cat, cn_cf, startD, bltD, lenD, Cr.intD, tupleD, sumD, anyD, allD, absD, minD, maxD, gcdD, binD, cmpD, truD, idxD, isiD, mthD, isN, List.map_cons, List.map_nil, List.length_cons, List.length_nil, Option.bind_some, Option.map_some, List.set_cons_zero, List.set_cons_succ, List.getElem?_cons_zero, List.getElem?_cons_succ, List.replicate, List.cons_append, List.nil_append, List.append_nil, Nat.zero_add, Nat.add_one_sub_one, Nat.sub_self, putT, putS, if_true, and_self, sz0, sz1, sz2, sz3, sz5, sz6, wipeD, Nat.reduceAdd, Nat.reduceSub, inside_ok (n := n) (h := h) Hi (.inr rfl) (hr r hr')]
    show some (D.bl (insideB r s), h) = some (D.bl ((dNs r).all fun y => memD (dNs s) y), h)
    unfold insideB dNs
    rw [List.all_map]
    congr 4
    funext k
    exact memD_nat.symm
  · rw [List.map_map]
    congr 2
    refine List.map_congr_left fun r _ => ?_
    show D.bl ((dNs r).all fun y => memD (dNs s) y) = _
    unfold insideB dNs
    rw [List.all_map]
    congr 2
    funext k
    exact memD_nat
/-- the truths of the codes below k -/
def truths (rows : List (List Nat)) (m k : Nat) : List Bool := (List.range k).map fun c => holdsB rows (membP m c)
theorem tab_loop {fi : Nat} (Hi : Has T fi Binside 2 3 true) {rows : List (List Nat)} {m : Nat} (hm : m ≤ 5) (hr : ∀ r ∈ rows, r.length ≤ sizeLine) (hl : rows.length ≤ sizeLine) :
    ∃ x3 x6 : Option D, forD (fun _ => True) (.nm 3) (exB (cn T (n + 1)) (Ltab fi)) ((List.range 32).map fun (k : Nat) => D.int (0 + (k : Int))) [some (.lst (rows.map dS)), some (dN m), some (.ref h.length), none, none, none, none, none, none] (h ++ [.lst []]) =
      some (.nx, [some (.lst (rows.map dS)), some (dN m), some (.ref h.length), x3, none, none, x6, none, none], h ++ [.lst ((truths rows m (2 ^ m)).map D.bl)]) := by
  have h32 : 2 ^ m ≤ 32 := by
    have : 2 ^ m ≤ 2 ^ 5 := Nat.pow_le_pow_right (by decide) hm
    omega
  obtain ⟨se', h', e1, x3, x6, e2, e3⟩ := forD_run (st := fun _ => True) (tg := .nm 3) (b := exB (cn T (n + 1)) (Ltab fi)) (xs := (List.range 32).map fun (k : Nat) => D.int (0 + (k : Int)))
    (fun i se h' => ∃ x3 x6 : Option D, se = [some (.lst (rows.map dS)), some (dN m), some (.ref h.length), x3, none, none, x6, none, none] ∧ h' = h ++ [.lst ((truths rows m (min i (2 ^ m))).map D.bl)])
    (se := [some (.lst (rows.map dS)), some (dN m), some (.ref h.length), none, none, none, none, none, none]) (h := h ++ [.lst []]) ⟨none, none, rfl, by rw [Nat.zero_min]; rfl⟩ (fun _ _ _ _ => trivial) (by
      rintro i x se h' ex ⟨x3, x6, rfl, rfl⟩
      obtain ⟨hi, rfl⟩ := rng_get ex
      have s1 : ∀ g : Hs, exS (cn T (n + 1)) (.set 6 (.pl Ctab)) [some (.lst (rows.map dS)), some (dN m), some (.ref h.length), some (dN i), none, none, x6, none, none] g = some (.nx, [some (.lst (rows.map dS)), some (dN m), some (.ref h.length), some (dN i), none, none, some (.lst (dNs (membP m i))), none, none], g) := fun g => exS_set (ev_pl (memb_comp hm))
      refine ⟨[some (.lst (rows.map dS)), some (dN m), some (.ref h.length), some (dN i), none, none, x6, none, none], [some (.lst (rows.map dS)), some (dN m), some (.ref h.length), some (dN i), none, none, some (.lst (dNs (membP m i))), none, none], h ++ [.lst ((truths rows m (min (i + 1) (2 ^ m))).map D.bl)], rfl, ?_, _, _, rfl, rfl⟩
      rw [Ltab, exB_cons (s1 _)]
      have et : ∀ g : Hs, evT (cn T (n + 1)) (.cmp .Lt (.var 3) (.idx (.tup (.cons (.cst (.int 1)) (.cons (.cst (.int 2)) (.cons (.cst (.int 4)) (.cons (.cst (.int 8)) (.cons (.cst (.int 16)) (.cons (.cst (.int 32)) .nil))))))) (.var 1))) [some (.lst (rows.map dS)), some (dN m), some (.ref h.length), some (dN i), none, none, some (.lst (dNs (membP m i))), none, none] g = some (decide ((i : Int) < ((2 ^ m : Nat) : Int)), g) := fun g => by
        simp only [exS, ev, evA, evO, evT, evC, evI_seq, evF_disp, evF_lst, evF_slk, evF_cat, cn_cf, startD, bltD, lenD, Cr.intD, tupleD, sumD, anyD, allD, absD, minD, maxD, gcdD, binD, cmpD, truD, idxD, isiD, mthD, isN, List.map_cons, List.map_nil, List.length_cons, List.length_nil, Option.bind_some, Option.map_some, List.set_cons_zero, List.set_cons_succ, List.getElem?_cons_zero, List.getElem?_cons_succ, List.replicate, List.cons_append, List.nil_append, List.append_nil, Nat.zero_add, Nat.add_one_sub_one, Nat.sub_self, putT, putS, if_true, and_self, sz0, sz1, sz2, sz3, sz5, sz6, wipeD, Nat.reduceAdd, Nat.reduceSub, dN, pows6 (show m < 6 by omega)]
      by_cases hlt : i < 2 ^ m
      · have et1 := et (h ++ [.lst ((truths rows m (min i (2 ^ m))).map D.bl)])
        rw [decide_eq_true (by omega)] at et1
        have p0 : (h ++ [O.lst ((truths rows m (min i (2 ^ m))).map D.bl)])[h.length]? = some (.lst ((truths rows m (min i (2 ^ m))).map D.bl)) := by rw [getA0]; rfl
        have hz : (((truths rows m (min i (2 ^ m))).map D.bl).length < sizeLine) = True := eq_true (by
          unfold truths
          rw [List.length_map, List.length_map, List.length_range]
          have := sz_le (show i + 1 ≤ 1000000 by omega)
          omega)
        have ef : ∀ g : Hs, evF (cn T (n + 1)) (Cany fi) [some (.lst (rows.map dS)), some (dN m), some (.ref h.length), some (dN i), none, none, some (.lst (dNs (membP m i))), none, none] g = some (rows.map fun r => D.bl (insideB r (membP m i)), g) := fun g => any_comp Hi hr hl
        have ee : truths rows m (min (i + 1) (2 ^ m)) = truths rows m (min i (2 ^ m)) ++ [holdsB rows (membP m i)] := by
          rw [Nat.min_eq_left (by omega), Nat.min_eq_left (by omega)]
          unfold truths
          rw [List.range_succ, List.map_append]
          rfl
        rw [exB_cons ((exS_ifT et1).trans (exB_cons (exS_exp (d := .non) (h1 := h ++ [.lst ((truths rows m (min (i + 1) (2 ^ m))).map D.bl)]) (by
          rw [ee, List.map_append]
          simp only [exS, ev, evA, evO, evT, evC, evI_seq, evF_disp, evF_lst, evF_slk, evF_cat, cn_cf, startD, bltD, lenD, Cr.intD, tupleD, sumD, anyD, allD, absD, minD, maxD, gcdD, binD, cmpD, truD, idxD, isiD, mthD, isN, List.map_cons, List.map_nil, List.length_cons, List.length_nil, Option.bind_some, Option.map_some, List.set_cons_zero, List.set_cons_succ, List.getElem?_cons_zero, List.getElem?_cons_succ, List.replicate, List.cons_append, List.nil_append, List.append_nil, Nat.zero_add, Nat.add_one_sub_one, Nat.sub_self, putT, putS, if_true, and_self, sz0, sz1, sz2, sz3, sz5, sz6, wipeD, Nat.reduceAdd, Nat.reduceSub, ef, lstOf, blsOf_fn, List.any_map, p0, appendD, hz, setA0]
          rfl))))]
        rfl
      · have et1 := et (h ++ [.lst ((truths rows m (min i (2 ^ m))).map D.bl)])
        rw [decide_eq_false (by omega)] at et1
        rw [exB_cons ((exS_ifF et1).trans exB_nil), Nat.min_eq_right (by omega), Nat.min_eq_right (by omega)]
        exact exB_nil)
  subst e2 e3
  rw [List.length_map, List.length_range, Nat.min_eq_right h32] at e1
  exact ⟨x3, x6, e1⟩
theorem table_ok {f fi fn : Nat} (H : Has T f (Btable fi fn) 2 9 true) (Hi : Has T fi Binside 2 3 true) (Hn : Has T fn (Bnode fn) 3 6 true) {rows : List (List Nat)} {m : Nat} (hm : m ≤ 5) (hr : ∀ r ∈ rows, r.length ≤ 1000) (hl : rows.length ≤ 1000) :
    call T (n + 7) f [.lst (rows.map dS), dN m] h = some (.tup [.tup ((nodeP m (truths rows m (2 ^ m)) 0 []).2.map dT), dN (nodeP m (truths rows m (2 ^ m)) 0 []).1], h) := by
  obtain ⟨x3, x6, e1⟩ := tab_loop (n := n + 5) (h := h) Hi hm (fun r q => sz_le (by have := hr r q; omega)) (sz_le (by omega))
  have h32 : 2 ^ m ≤ 32 := by
    have : 2 ^ m ≤ 2 ^ 5 := Nat.pow_le_pow_right (by decide) hm
    omega
  have hlen : (truths rows m (2 ^ m)).length = 2 ^ m := by unfold truths; rw [List.length_map, List.length_range]
  generalize truths rows m (2 ^ m) = bs at e1 hlen
  have c1 := node_ok Hn m (n := n + 5) (h := h ++ [.lst (bs.map D.bl), .lst []]) (bs := bs) (o := .ref h.length) (p := 0) (k := h.length + 1) (ns := []) (by omega) hlen (.inr ⟨h.length, rfl, by omega, by rw [getA0]; rfl⟩) (by rw [getA]; rfl) (by show 0 + 2 ^ m ≤ 1000; omega)
  generalize nodeP m bs 0 [] = r at c1
  rw [setA] at c1
  have c1 : call T (n + 6) fn [.ref h.length, .int 0, .ref (h.length + 1)] (h ++ [.lst (bs.map D.bl), .lst []]) = some (dN r.1, h ++ [.lst (bs.map D.bl), .lst (r.2.map dT)]) := c1
  have p1 : ((0 : Int) ≤ 5 ∧ (5 : Int) ≤ 1000000 ∧ (2 : Int).natAbs < 2 ^ 64) = True := eq_true (by decide)
  have p0 : (h ++ [O.lst (bs.map D.bl), .lst (r.2.map dT)])[h.length + 1]? = some (.lst (r.2.map dT)) := by rw [getA]; rfl
  refine H.rt rfl ⟨[some (.lst (rows.map dS)), some (dN m), some (.ref h.length), x3, some (.ref (h.length + 1)), some (dN r.1), x6, none, none], ?_⟩ (leave_pure (ex := [.lst (bs.map D.bl), .lst (r.2.map dT)]) (by
    show (pureDs (r.2.map dT) && true) = true
    rw [pure_T]
    rfl))
  unfold Btable
  rw [exB_cons (se1 := [some (.lst (rows.map dS)), some (dN m), some (.ref h.length), none, none, none, none, none, none]) (h1 := h ++ [.lst []]) (by simp only [exS, ev, evA, evO, evT, evC, evI_seq, evF_disp, evF_lst, evF_slk, evF_cat, cn_cf, startD, bltD, lenD, Cr.intD, tupleD, sumD, anyD, allD, absD, minD, maxD, gcdD, binD, cmpD, truD, idxD, isiD, mthD, isN, List.map_cons, List.map_nil, List.length_cons, List.length_nil, Option.bind_some, Option.map_some, List.set_cons_zero, List.set_cons_succ, List.getElem?_cons_zero, List.getElem?_cons_succ, List.replicate, List.cons_append, List.nil_append, List.append_nil, Nat.zero_add, Nat.add_one_sub_one, Nat.sub_self, putT, putS, if_true, and_self, sz0, sz1, sz2, sz3, sz5, sz6, wipeD, Nat.reduceAdd, Nat.reduceSub])]
  rw [exB_cons (se1 := [some (.lst (rows.map dS)), some (dN m), some (.ref h.length), x3, none, none, x6, none, none]) (h1 := h ++ [.lst (bs.map D.bl)]) (by
    rw [exS_for (evI_rngN (m := 32) (h1 := h ++ [.lst []]) (by decide) (by simp only [exS, ev, evA, evO, evT, evC, evI_seq, evF_disp, evF_lst, evF_slk, evF_cat, cn_cf, startD, bltD, lenD, Cr.intD, tupleD, sumD, anyD, allD, absD, minD, maxD, gcdD, binD, cmpD, truD, idxD, isiD, mthD, isN, List.map_cons, List.map_nil, List.length_cons, List.length_nil, Option.bind_some, Option.map_some, List.set_cons_zero, List.set_cons_succ, List.getElem?_cons_zero, List.getElem?_cons_succ, List.replicate, List.cons_append, List.nil_append, List.append_nil, Nat.zero_add, Nat.add_one_sub_one, Nat.sub_self, putT, putS, if_true, and_self, sz0, sz1, sz2, sz3, sz5, sz6, wipeD, Nat.reduceAdd, Nat.reduceSub, p1]; rfl))]
    exact e1)]
  rw [exB_cons (se1 := [some (.lst (rows.map dS)), some (dN m), some (.ref h.length), x3, some (.ref (h.length + 1)), none, x6, none, none]) (h1 := h ++ [.lst (bs.map D.bl), .lst []]) (by
    simp only [exS, ev, evA, evO, evT, evC, evI_seq, evF_disp, evF_lst, evF_slk, evF_cat, cn_cf, startD, bltD, lenD, Cr.intD, tupleD, sumD, anyD, allD, absD, minD, maxD, gcdD, binD, cmpD, truD, idxD, isiD, mthD, isN, List.map_cons, List.map_nil, List.length_cons, List.length_nil, Option.bind_some, Option.map_some, List.set_cons_zero, List.set_cons_succ, List.getElem?_cons_zero, List.getElem?_cons_succ, List.replicate, List.cons_append, List.nil_append, List.append_nil, Nat.zero_add, Nat.add_one_sub_one, Nat.sub_self, putT, putS, if_true, and_self, sz0, sz1, sz2, sz3, sz5, sz6, wipeD, Nat.reduceAdd, Nat.reduceSub, List.length_append, List.append_assoc])]
  rw [exB_cons (se1 := [some (.lst (rows.map dS)), some (dN m), some (.ref h.length), x3, some (.ref (h.length + 1)), some (dN r.1), x6, none, none]) (h1 := h ++ [.lst (bs.map D.bl), .lst (r.2.map dT)]) (by
    simp only [exS, ev, evA, evO, evT, evC, evI_seq, evF_disp, evF_lst, evF_slk, evF_cat, cn_cf, startD, bltD, lenD, Cr.intD, tupleD, sumD, anyD, allD, absD, minD, maxD, gcdD, binD, cmpD, truD, idxD, isiD, mthD, isN, List.map_cons, List.map_nil, List.length_cons, List.length_nil, Option.bind_some, Option.map_some, List.set_cons_zero, List.set_cons_succ, List.getElem?_cons_zero, List.getElem?_cons_succ, List.replicate, List.cons_append, List.nil_append, List.append_nil, Nat.zero_add, Nat.add_one_sub_one, Nat.sub_self, putT, putS, if_true, and_self, sz0, sz1, sz2, sz3, sz5, sz6, wipeD, Nat.reduceAdd, Nat.reduceSub, c1])]
  refine exB_rt ?_
  simp only [exS, ev, evA, evO, evT, evC, evI_seq, evF_disp, evF_lst, evF_slk, evF_cat, cn_cf, startD, bltD, lenD, Cr.intD, tupleD, sumD, anyD, allD, absD, minD, maxD, gcdD, binD, cmpD, truD, idxD, isiD, mthD, isN, List.map_cons, List.map_nil, List.length_cons, List.length_nil, Option.bind_some, Option.map_some, List.set_cons_zero, List.set_cons_succ, List.getElem?_cons_zero, List.getElem?_cons_succ, List.replicate, List.cons_append, List.nil_append, List.append_nil, Nat.zero_add, Nat.add_one_sub_one, Nat.sub_self, putT, putS, if_true, and_self, sz0, sz1, sz2, sz3, sz5, sz6, wipeD, Nat.reduceAdd, Nat.reduceSub, lstOf, p0]
end
end Cr
/-! The chance of a table, as a whole. -/
namespace Cr
open PySem PySem.Spec PyProof.Rows L2
theorem cases_VT {rows : List (List Nat)} {cs : List Nat} {m : Nat} (hl : cs.length = m) : casesP rows cs [] = VT cs m (truths rows m (2 ^ m)) 0 := by
  have e : truths rows m (2 ^ m) = (subsF (List.range m)).map (holdsB rows) := by
    rw [subs_memb, List.map_map]
    rfl
  rw [e, VT_subs]
  unfold casesP
  rw [hl]
  congr 1
  refine List.map_congr_left fun s _ => ?_
  unfold caseP
  rw [hl]
  have : insideB [] s = true := rfl
  rw [this, Bool.and_true]
theorem cases_all {cs : List Nat} {m : Nat} (hl : cs.length = m) (hc : ∀ c ∈ cs, c ≤ 1000) : casesP [[]] cs [] = 1000 ^ m := by
  rw [cases_VT hl]
  refine VT_true (fun p => ?_) m _ 0 ?_ ?_
  · rw [List.getD_eq_getElem?_getD]
    cases e : cs[p]? with
    | none => exact Nat.zero_le _
    | some c => exact hc c (List.mem_of_getElem? e)
  · unfold truths
    rw [List.length_map, List.length_range]
  · intro b hb
    obtain ⟨c, _, rfl⟩ := List.mem_map.mp hb
    rfl
/-- the fractions of a table's diagram, and the fraction at its root -/
theorem table_vals {rows : List (List Nat)} {cs : List Nat} {m : Nat} (hm : m ≤ 5) (hl : cs.length = m) (hc : ∀ c ∈ cs, c ≤ 1000) :
    ∃ (vals : List (Nat × Nat)) (v : Nat × Nat), ValsOf (nodeP m (truths rows m (2 ^ m)) 0 []).2 cs vals ∧ vals[(nodeP m (truths rows m (2 ^ m)) 0 []).1]? = some v ∧ Nat.gcd v.1 v.2 = 1 ∧ 0 < v.2 ∧ v.1 < 2 ^ 50 ∧ v.2 < 2 ^ 50 ∧ v.1 * 1000 ^ m = casesP rows cs [] * v.2 := by
  have hlen : (truths rows m (2 ^ m)).length = 2 ^ m := by unfold truths; rw [List.length_map, List.length_range]
  have W0 : Wf m ([] : List Nd) := ⟨fun j p w i e => by simp at e⟩
  rw [cases_VT hl]
  generalize truths rows m (2 ^ m) = bs at hlen
  obtain ⟨w1, w2, w3, w4⟩ := nodeP_wf (m := m) m bs 0 [] (by omega) W0
  have nv : ∀ {vals : List (Nat × Nat)}, ValsOf (nodeP m bs 0 []).2 cs vals → ∀ v, vals[(nodeP m bs 0 []).1]? = some v → Fr v (VT cs m bs 0) (1000 ^ m) := fun V => node_val (m := m) V m bs 0 [] hlen (by omega) W0 ⟨[], (List.append_nil _).symm⟩
  generalize nodeP m bs 0 [] = r at w1 w2 w3 w4 nv
  obtain ⟨vals, V, G⟩ := vals_of (cs := cs) w1 hm hl hc r.2.length (Nat.le_refl _)
  rw [List.take_length] at V
  obtain ⟨v, ev1⟩ : ∃ v, vals[r.1]? = some v := ⟨_, List.getElem?_eq_getElem (by rw [V.len]; exact w3)⟩
  obtain ⟨g1, _⟩ := G.ok r.1 v ev1
  obtain ⟨o1, o2, o3⟩ := V.ok v (List.mem_of_getElem? ev1)
  exact ⟨vals, v, V, ev1, g1, o1, o2, o3, (nv V v ev1).1⟩
end Cr
/-! The store 1: its state, make, top, side. -/
namespace Cr
open PySem PySem.Spec PyProof.Rows L2
/-! ### the state -/
def keyT (r : Nd) : List L2.Key := [.inl (r.1 : Int), .inl (r.2.1 : Int), .inl (r.2.2 : Int)]
theorem keyT_inj {r q : Nd} (h : keyT r = keyT q) : r = q := by
  obtain ⟨a, b, c⟩ := r
  obtain ⟨d, e, f⟩ := q
  simp only [keyT, List.cons.injEq, Sum.inl.injEq, and_true] at h
  obtain ⟨h1, h2, h3⟩ := h
  have e1 : a = d := by omega
  have e2 : b = e := by omega
  have e3 : c = f := by omega
  rw [e1, e2, e3]
/-- the places of the nodes, from j on -/
def plcF : Nat → List Nd → List (List L2.Key × D)
  | _, [] => []
  | j, r :: ns => (keyT r, dN j) :: plcF (j + 1) ns
theorem plcF_val {r : Nd} : ∀ {ns : List Nd} {j : Nat}, valD (plcF j ns) (keyT r) = if r ∈ ns then some (dN (posT r ns + j)) else none
  | [], j => rfl
  | x :: ns, j => by
    by_cases e : x = r
    · subst e
      have : valD (plcF j (x :: ns)) (keyT x) = some (dN j) := by
        simp [plcF, valD, List.find?_cons]
      rw [this, if_pos List.mem_cons_self, posT, if_pos rfl, Nat.zero_add]
    · have hk : ¬ keyT x = keyT r := fun h => e (keyT_inj h)
      have h1 : valD (plcF j (x :: ns)) (keyT r) = valD (plcF (j + 1) ns) (keyT r) := by
        simp [plcF, valD, List.find?_cons, hk]
      rw [h1, plcF_val, posT, if_neg e]
      by_cases hm : r ∈ ns
      · rw [if_pos hm, if_pos (List.mem_cons_of_mem _ hm)]
        congr 2
        omega
      · rw [if_neg hm, if_neg]
        intro z
        rcases List.mem_cons.mp z with z | z
        · exact e z.symm
        · exact hm z
theorem plcF_any {r : Nd} : ∀ {ns : List Nd} {j : Nat}, ((plcF j ns).any fun kv => decide (kv.1 = keyT r)) = decide (r ∈ ns)
  | [], j => rfl
  | x :: ns, j => by
    show (decide (keyT x = keyT r) || (plcF (j + 1) ns).any fun kv => decide (kv.1 = keyT r)) = _
    rw [plcF_any]
    by_cases e : x = r
    · subst e; simp
    · have hk : ¬ keyT x = keyT r := fun h => e (keyT_inj h)
      have h2 : ¬ r = x := fun h => e h.symm
      simp [hk, h2]
theorem plcF_snoc {r : Nd} : ∀ {ns : List Nd} {j : Nat}, plcF j (ns ++ [r]) = plcF j ns ++ [(keyT r, dN (ns.length + j))]
  | [], j => by simp [plcF]
  | x :: ns, j => by
    show (keyT x, dN j) :: plcF (j + 1) (ns ++ [r]) = (keyT x, dN j) :: (plcF (j + 1) ns ++ [(keyT r, dN ((x :: ns).length + j))])
    rw [plcF_snoc, List.length_cons]
    congr 5
    omega
theorem plcF_put {r : Nd} {ns : List Nd} {j : Nat} (h : r ∉ ns) : putD (plcF j ns) (keyT r) (dN (ns.length + j)) = plcF j (ns ++ [r]) := by
  unfold putD
  rw [plcF_any, decide_eq_false h, if_neg (by decide), plcF_snoc]
theorem plcF_len : ∀ {ns : List Nd} {j : Nat}, (plcF j ns).length = ns.length
  | [], _ => rfl
  | _ :: ns, _ => congrArg (· + 1) plcF_len
theorem plcF_pure : ∀ {ns : List Nd} {j : Nat}, pureDs ((plcF j ns).map (·.2)) = true
  | [], _ => rfl
  | _ :: ns, _ => plcF_pure (ns := ns)
def base : List Nd := [(0, 0, 0), (0, 1, 1)]
/-- the store s with its nodes at a, its places at b -/
structure SAt (h : Hs) (s a b : Nat) (ns : List Nd) : Prop where
  o : h[s]? = some (.ins 0 [("nodes", .ref a), ("places", .ref b)])
  a : h[a]? = some (.lst ((base ++ ns).map dT))
  b : h[b]? = some (.dT (plcF 2 ns))
/-- the heap with other nodes -/
def sth (h : Hs) (a b : Nat) (ns : List Nd) : Hs := (h.set a (.lst ((base ++ ns).map dT))).set b (.dT (plcF 2 ns))
theorem set_id {h : Hs} {k : Nat} {o : O} (e : h[k]? = some o) : h.set k o = h := set_same e
section
variable {h : Hs} {s a b : Nat} {ns ns' : List Nd}
theorem SAt.ne (S : SAt h s a b ns) : a ≠ b ∧ s ≠ a ∧ s ≠ b := by
  refine ⟨fun e => ?_, fun e => ?_, fun e => ?_⟩
  · have := S.a; rw [e, S.b] at this; cases this
  · have := S.o; rw [e, S.a] at this; cases this
  · have := S.o; rw [e, S.b] at this; cases this
theorem SAt.la (S : SAt h s a b ns) : a < h.length ∧ b < h.length ∧ s < h.length := ⟨(List.getElem?_eq_some_iff.mp S.a).1, (List.getElem?_eq_some_iff.mp S.b).1, (List.getElem?_eq_some_iff.mp S.o).1⟩
theorem SAt.same (S : SAt h s a b ns) : sth h a b ns = h := by
  unfold sth
  rw [set_id S.a, set_id S.b]
theorem sth_len : (sth h a b ns).length = h.length := by unfold sth; rw [List.length_set, List.length_set]
theorem sth_get {k : Nat} (ha : k ≠ a) (hb : k ≠ b) : (sth h a b ns)[k]? = h[k]? := by
  unfold sth
  rw [List.getElem?_set_ne hb.symm, List.getElem?_set_ne ha.symm]
theorem SAt.to (S : SAt h s a b ns) (ns' : List Nd) : SAt (sth h a b ns') s a b ns' := by
  obtain ⟨n1, n2, n3⟩ := S.ne
  obtain ⟨l1, l2, l3⟩ := S.la
  refine ⟨?_, ?_, ?_⟩
  · rw [sth_get n2 n3]; exact S.o
  · unfold sth
    rw [List.getElem?_set_ne n1.symm, List.getElem?_set_self l1]
  · unfold sth
    rw [List.getElem?_set_self (by rw [List.length_set]; exact l2)]
theorem sth_sth (hn : a ≠ b) : sth (sth h a b ns) a b ns' = sth h a b ns' := by
  have e : (sth h a b ns).set a (.lst ((base ++ ns').map dT)) = (h.set a (.lst ((base ++ ns').map dT))).set b (.dT (plcF 2 ns)) := by
    unfold sth
    rw [List.set_comm _ _ hn.symm, List.set_set]
  show ((sth h a b ns).set a (.lst ((base ++ ns').map dT))).set b (.dT (plcF 2 ns')) = _
  rw [e, List.set_set]
  rfl
/-- other things stand -/
theorem SAt.upd (S : SAt h s a b ns) {k : Nat} {o : O} (h1 : k ≠ s) (h2 : k ≠ a) (h3 : k ≠ b) : SAt (h.set k o) s a b ns :=
  ⟨by rw [List.getElem?_set_ne h1]; exact S.o, by rw [List.getElem?_set_ne h2]; exact S.a, by rw [List.getElem?_set_ne h3]; exact S.b⟩
theorem SAt.app (S : SAt h s a b ns) (ex : Hs) : SAt (h ++ ex) s a b ns := by
  obtain ⟨l1, l2, l3⟩ := S.la
  exact ⟨by rw [List.getElem?_append_left l3]; exact S.o, by rw [List.getElem?_append_left l1]; exact S.a, by rw [List.getElem?_append_left l2]; exact S.b⟩
end
/-! ### leaving a method -/
/-- only such objects are changed as hold no changed things -/
theorem leave_len {h h' : Hs} {d : D} (hl : h'.length = h.length) (p : pureD d = true) (hc : ∀ (n : Nat) (o : O), h'[n]? = some o → h[n]? = some o ∨ clsdO h.length o = true) : leave true h d h' = some (d, h') := by
  rw [leave_gen (e := d) (fun n o _ e => hc n o e) (frzN_pure p), List.take_of_length_le (by omega)]
theorem sth_closed {h : Hs} {a b : Nat} {ns : List Nd} {k : Nat} : ∀ (n : Nat) (o : O), (sth h a b ns)[n]? = some o → h[n]? = some o ∨ clsdO k o = true := by
  intro n o e
  unfold sth at e
  by_cases hb : b = n
  · subst hb
    have hl := (List.getElem?_eq_some_iff.mp e).1
    rw [List.length_set] at hl
    rw [List.getElem?_set_self hl] at e
    cases e
    exact .inr (clsds_pure plcF_pure)
  · rw [List.getElem?_set_ne hb] at e
    by_cases ha : a = n
    · subst ha
      have hl := (List.getElem?_eq_some_iff.mp e).1
      rw [List.length_set] at hl
      rw [List.getElem?_set_self hl] at e
      cases e
      exact .inr (clsds_pure (pure_T _))
    · rw [List.getElem?_set_ne ha] at e
      exact .inl e
/-! ### make -/
def mkP (ns : List Nd) (r : Nd) : Nat × List Nd := if r.2.1 = r.2.2 then (r.2.1, ns) else (posT r (addT r ns) + 2, addT r ns)
def Bmake : CB := (.cons (.ife (.cmp .Eq (.var 2) (.var 3)) (.cons (.ret (.var 2)) .nil) .nil) (.cons (.set 4 (.tup (.cons (.var 1) (.cons (.var 2) (.cons (.var 3) .nil))))) (.cons (.ife (.cmp .NotIn (.var 4) (.fld (.var 0) "places")) (.cons (.sub (.fld (.var 0) "places") (.var 4) (.blt .len (.cons (.fld (.var 0) "nodes") .nil))) (.cons (.exp (.mth .append (.fld (.var 0) "nodes") (.cons (.var 4) .nil))) .nil)) .nil) (.cons (.ret (.idx (.fld (.var 0) "places") (.var 4))) .nil))))
section
variable {T : Tb} {n : Nat} {h : Hs} {s a b : Nat} {ns : List Nd}
theorem fld_nodes (hF : T.fok 0 "nodes" = true) (S : SAt h s a b ns) : fldD T.fok h "nodes" (.ref s) = some (.ref a) := by
  simp only [fldD, S.o, hF, if_true]
  rfl
theorem fld_places (hF : T.fok 0 "places" = true) (S : SAt h s a b ns) : fldD T.fok h "places" (.ref s) = some (.ref b) := by
  simp only [fldD, S.o, hF, if_true]
  rfl
theorem keys_T (r : Nd) : keysD [dN r.1, dN r.2.1, dN r.2.2] = some (keyT r) := rfl
theorem make_ok {f : Nat} (H : Has T f Bmake 4 5 true) (hF1 : T.fok 0 "nodes" = true) (hF2 : T.fok 0 "places" = true) (S : SAt h s a b ns) (hsz : ns.length ≤ 100000) (v w i : Nat) :
    call T (n + 1) f [.ref s, dN v, dN w, dN i] h = some (dN (mkP ns (v, w, i)).1, sth h a b (mkP ns (v, w, i)).2) := by
  obtain ⟨n1, n2, n3⟩ := S.ne
  obtain ⟨l1, l2, l3⟩ := S.la
  have eq1 : evT (cn T n) (.cmp .Eq (.var 2) (.var 3)) [some (.ref s), some (dN v), some (dN w), some (dN i), none] h = some (decide (w = i), h) := by
    simp only [exS, ev, evA, evO, evT, evC, evI_seq, evF_disp, evF_lst, evF_slk, evF_cat, cn_cf, startD, bltD, lenD, Cr.intD, tupleD, sumD, anyD, allD, absD, minD, maxD, gcdD, binD, cmpD, truD, idxD, isiD, mthD, isN, List.map_cons, List.map_nil, List.length_cons, List.length_nil, Option.bind_some, Option.map_some, List.set_cons_zero, List.set_cons_succ, List.getElem?_cons_zero, List.getElem?_cons_succ, List.replicate, List.cons_append, List.nil_append, List.append_nil, Nat.zero_add, Nat.add_one_sub_one, Nat.sub_self, putT, putS, if_true, and_self, sz0, sz1, sz2, sz3, sz5, sz6, wipeD, Nat.reduceAdd, Nat.reduceSub, dN, eqD_int, nat_beq]
  by_cases hwi : w = i
  · rw [decide_eq_true hwi] at eq1
    have e : mkP ns (v, w, i) = (w, ns) := by unfold mkP; rw [if_pos hwi]
    rw [e, S.same]
    refine H.rt rfl ⟨[some (.ref s), some (dN v), some (dN w), some (dN i), none], ?_⟩ (leave_same rfl)
    exact exB_rt ((exS_ifT eq1).trans rfl)
  rw [decide_eq_false hwi] at eq1
  have e : mkP ns (v, w, i) = (posT (v, w, i) (addT (v, w, i) ns) + 2, addT (v, w, i) ns) := by unfold mkP; rw [if_neg hwi]
  rw [e]
  have s2 : exS (cn T n) (.set 4 (.tup (.cons (.var 1) (.cons (.var 2) (.cons (.var 3) .nil))))) [some (.ref s), some (dN v), some (dN w), some (dN i), none] h = some (.nx, [some (.ref s), some (dN v), some (dN w), some (dN i), some (dT (v, w, i))], h) := by
    simp only [exS, ev, evA, evO, evT, evC, evI_seq, evF_disp, evF_lst, evF_slk, evF_cat, cn_cf, startD, bltD, lenD, Cr.intD, tupleD, sumD, anyD, allD, absD, minD, maxD, gcdD, binD, cmpD, truD, idxD, isiD, mthD, isN, List.map_cons, List.map_nil, List.length_cons, List.length_nil, Option.bind_some, Option.map_some, List.set_cons_zero, List.set_cons_succ, List.getElem?_cons_zero, List.getElem?_cons_succ, List.replicate, List.cons_append, List.nil_append, List.append_nil, Nat.zero_add, Nat.add_one_sub_one, Nat.sub_self, putT, putS, if_true, and_self, sz0, sz1, sz2, sz3, sz5, sz6, wipeD, Nat.reduceAdd, Nat.reduceSub]
    rfl
  have ein : inD h (dT (v, w, i)) (.ref b) = some (decide ((v, w, i) ∈ ns)) := by
    have : dgetD h b (dT (v, w, i)) = some (if (v, w, i) ∈ ns then some (dN (posT (v, w, i) ns + 2)) else none) := by
      simp only [dgetD, S.b, dT, keys_T (v, w, i), Option.map_some, plcF_val]
    simp only [inD, S.b, this, Option.map_some]
    by_cases hm : (v, w, i) ∈ ns
    · rw [if_pos hm, decide_eq_true hm]; rfl
    · rw [if_neg hm, decide_eq_false hm]; rfl
  have et : evT (cn T n) (.cmp .NotIn (.var 4) (.fld (.var 0) "places")) [some (.ref s), some (dN v), some (dN w), some (dN i), some (dT (v, w, i))] h = some (!decide ((v, w, i) ∈ ns), h) := by
    simp only [exS, ev, evA, evO, evT, evC, evI_seq, evF_disp, evF_lst, evF_slk, evF_cat, cn_cf, startD, bltD, lenD, Cr.intD, tupleD, sumD, anyD, allD, absD, minD, maxD, gcdD, binD, cmpD, truD, idxD, isiD, mthD, isN, List.map_cons, List.map_nil, List.length_cons, List.length_nil, Option.bind_some, Option.map_some, List.set_cons_zero, List.set_cons_succ, List.getElem?_cons_zero, List.getElem?_cons_succ, List.replicate, List.cons_append, List.nil_append, List.append_nil, Nat.zero_add, Nat.add_one_sub_one, Nat.sub_self, putT, putS, if_true, and_self, sz0, sz1, sz2, sz3, sz5, sz6, wipeD, Nat.reduceAdd, Nat.reduceSub, cn_fok, fld_places hF2 S, ein]
  have s3 : exS (cn T n) (.ife (.cmp .NotIn (.var 4) (.fld (.var 0) "places")) (.cons (.sub (.fld (.var 0) "places") (.var 4) (.blt .len (.cons (.fld (.var 0) "nodes") .nil))) (.cons (.exp (.mth .append (.fld (.var 0) "nodes") (.cons (.var 4) .nil))) .nil)) .nil)
      [some (.ref s), some (dN v), some (dN w), some (dN i), some (dT (v, w, i))] h = some (.nx, [some (.ref s), some (dN v), some (dN w), some (dN i), some (dT (v, w, i))], sth h a b (addT (v, w, i) ns)) := by
    by_cases hm : (v, w, i) ∈ ns
    · rw [decide_eq_true hm] at et
      rw [exS_ifF et, exB_nil, addT, if_pos hm, S.same]
    · rw [decide_eq_false hm] at et
      rw [exS_ifT et, addT, if_neg hm]
      have hlen : ((base ++ ns).map dT).length = ns.length + 2 := by
        rw [List.length_map, List.length_append]
        show 2 + ns.length = _
        omega
      have eput : dputD h b (dT (v, w, i)) (dN (ns.length + 2)) = some (h.set b (.dT (plcF 2 (ns ++ [(v, w, i)])))) := by
        have hz : (plcF 2 ns).length < sizeLine := by rw [plcF_len]; have := sz_le (show ns.length + 1 ≤ 1000000 by omega); omega
        simp only [dputD, S.b, dT, keys_T (v, w, i), Option.bind_some, if_pos hz, plcF_put hm]
      have eset : setD h (.ref b) (dT (v, w, i)) (dN (ns.length + 2)) = some (h.set b (.dT (plcF 2 (ns ++ [(v, w, i)])))) := by
        simp only [setD, S.b, eput]
      have s4 : exS (cn T n) (.sub (.fld (.var 0) "places") (.var 4) (.blt .len (.cons (.fld (.var 0) "nodes") .nil))) [some (.ref s), some (dN v), some (dN w), some (dN i), some (dT (v, w, i))] h = some (.nx, [some (.ref s), some (dN v), some (dN w), some (dN i), some (dT (v, w, i))], h.set b (.dT (plcF 2 (ns ++ [(v, w, i)])))) := by
        have hn : D.int (((base ++ ns).map dT).length : Int) = dN (ns.length + 2) := by rw [hlen]; rfl
        simp only [exS, ev, evA, evO, evT, evC, evI_seq, evF_disp, evF_lst, evF_slk, evF_cat, cn_cf, startD, bltD, lenD, Cr.intD, tupleD, sumD, anyD, allD, absD, minD, maxD, gcdD, binD, cmpD, truD, idxD, isiD, mthD, isN, List.map_cons, List.map_nil, List.length_cons, List.length_nil, Option.bind_some, Option.map_some, List.set_cons_zero, List.set_cons_succ, List.getElem?_cons_zero, List.getElem?_cons_succ, List.replicate, List.cons_append, List.nil_append, List.append_nil, Nat.zero_add, Nat.add_one_sub_one, Nat.sub_self, putT, putS, if_true, and_self, sz0, sz1, sz2, sz3, sz5, sz6, wipeD, Nat.reduceAdd, Nat.reduceSub, cn_fok, fld_places hF2 S, fld_nodes hF1 S, seqOf, S.a, hn, eset]
      have hso : (h.set b (.dT (plcF 2 (ns ++ [(v, w, i)]))))[s]? = some (.ins 0 [("nodes", .ref a), ("places", .ref b)]) := by rw [List.getElem?_set_ne n3.symm]; exact S.o
      have hsa : (h.set b (.dT (plcF 2 (ns ++ [(v, w, i)]))))[a]? = some (.lst ((base ++ ns).map dT)) := by rw [List.getElem?_set_ne n1.symm]; exact S.a
      have hfl : fldD T.fok (h.set b (.dT (plcF 2 (ns ++ [(v, w, i)])))) "nodes" (.ref s) = some (.ref a) := by
        simp only [fldD, hso, hF1, if_true]
        rfl
      have hz : (((base ++ ns).map dT).length < sizeLine) = True := eq_true (by
        rw [hlen]
        have := sz_le (show ns.length + 3 ≤ 1000000 by omega)
        omega)
      have s5 : exS (cn T n) (.exp (.mth .append (.fld (.var 0) "nodes") (.cons (.var 4) .nil))) [some (.ref s), some (dN v), some (dN w), some (dN i), some (dT (v, w, i))] (h.set b (.dT (plcF 2 (ns ++ [(v, w, i)])))) = some (.nx, [some (.ref s), some (dN v), some (dN w), some (dN i), some (dT (v, w, i))], sth h a b (ns ++ [(v, w, i)])) := by
        simp only [exS, ev, evA, evO, evT, evC, evI_seq, evF_disp, evF_lst, evF_slk, evF_cat, cn_cf, startD, bltD, lenD, Cr.intD, tupleD, sumD, anyD, allD, absD, minD, maxD, gcdD, binD, cmpD, truD, idxD, isiD, mthD, isN, List.map_cons, List.map_nil, List.length_cons, List.length_nil, Option.bind_some, Option.map_some, List.set_cons_zero, List.set_cons_succ, List.getElem?_cons_zero, List.getElem?_cons_succ, List.replicate, List.cons_append, List.nil_append, List.append_nil, Nat.zero_add, Nat.add_one_sub_one, Nat.sub_self, putT, putS, if_true, and_self, sz0, sz1, sz2, sz3, sz5, sz6, wipeD, Nat.reduceAdd, Nat.reduceSub, cn_fok, hfl, lstOf, hsa, appendD, hz]
        unfold sth
        rw [List.set_comm _ _ n1.symm]
        simp only [List.map_append, List.append_assoc]
        rfl
      rw [exB_cons s4, exB_cons s5]
      exact exB_nil
  have S' := S.to (addT (v, w, i) ns)
  refine H.rt rfl ⟨[some (.ref s), some (dN v), some (dN w), some (dN i), some (dT (v, w, i))], ?_⟩ (leave_len sth_len rfl sth_closed)
  show exB (cn T n) Bmake [some (.ref s), some (dN v), some (dN w), some (dN i), none] h = _
  rw [Bmake, exB_cons ((exS_ifF eq1).trans exB_nil), exB_cons s2, exB_cons s3]
  refine exB_rt (exS_ret ?_)
  have hm := addT_mem (v, w, i) ns
  have eg : idxD (sth h a b (addT (v, w, i) ns)) (.ref b) (dT (v, w, i)) = some (dN (posT (v, w, i) (addT (v, w, i) ns) + 2)) := by
    have : dgetD (sth h a b (addT (v, w, i) ns)) b (dT (v, w, i)) = some (some (dN (posT (v, w, i) (addT (v, w, i) ns) + 2))) := by
      simp only [dgetD, S'.b, dT, keys_T (v, w, i), Option.map_some, plcF_val, if_pos hm]
    simp only [idxD, S'.b, this, Option.bind_some, id]
  have e5 : idxD (sth h a b (addT (v, w, i) ns)) (.ref b) (dT (v, w, i)) = some (dN (posT (v, w, i) (addT (v, w, i) ns) + 2)) := eg
  show ((ev (cn T n) (.fld (.var 0) "places") _ _).bind fun p => _) = _
  have e6 : ev (cn T n) (.fld (.var 0) "places") [some (.ref s), some (dN v), some (dN w), some (dN i), some (dT (v, w, i))] (sth h a b (addT (v, w, i) ns)) = some (.ref b, sth h a b (addT (v, w, i) ns)) := by
    simp only [exS, ev, evA, evO, evT, evC, evI_seq, evF_disp, evF_lst, evF_slk, evF_cat, cn_cf, startD, bltD, lenD, Cr.intD, tupleD, sumD, anyD, allD, absD, minD, maxD, gcdD, binD, cmpD, truD, idxD, isiD, mthD, isN, List.map_cons, List.map_nil, List.length_cons, List.length_nil, Option.bind_some, Option.map_some, List.set_cons_zero, List.set_cons_succ, List.getElem?_cons_zero, List.getElem?_cons_succ, List.replicate, List.cons_append, List.nil_append, List.append_nil, Nat.zero_add, Nat.add_one_sub_one, Nat.sub_self, putT, putS, if_true, and_self, sz0, sz1, sz2, sz3, sz5, sz6, wipeD, Nat.reduceAdd, Nat.reduceSub, cn_fok, fld_places hF2 S']
  rw [e6]
  show (((idxD (sth h a b (addT (v, w, i) ns)) (.ref b) (dT (v, w, i))).map fun d => (d, sth h a b (addT (v, w, i) ns))) : Option (D × Hs)) = _
  rw [e5]
  rfl
end
end Cr
/-! The store 2: top, side. -/
namespace Cr
open PySem PySem.Spec PyProof.Rows L2
theorem base_get {ns : List Nd} {k : Nat} {r : Nd} (e : ns[k]? = some r) : ((base ++ ns).map dT)[k + 2]? = some (dT r) := by
  rw [List.getElem?_map]
  have : (base ++ ns)[k + 2]? = some r := e
  rw [this]
  rfl
section
variable {T : Tb} {n : Nat} {h : Hs} {s a b : Nat} {ns : List Nd}
def Btop : CB := (.cons (.ife (.cmp .Lt (.var 1) (.cst (.int 2))) (.cons (.ret (.idx (.idx (.fld (.var 0) "nodes") (.var 2)) (.cst (.int 0)))) .nil) .nil) (.cons (.ife (.cmp .Lt (.var 2) (.cst (.int 2))) (.cons (.ret (.idx (.idx (.fld (.var 0) "nodes") (.var 1)) (.cst (.int 0)))) .nil) .nil) (.cons (.ret (.blt .min (.cons (.idx (.idx (.fld (.var 0) "nodes") (.var 1)) (.cst (.int 0))) (.cons (.idx (.idx (.fld (.var 0) "nodes") (.var 2)) (.cst (.int 0))) .nil)))) .nil)))
theorem at_n {k : Nat} {r : Nd} (e : ns[k]? = some r) : atI ((base ++ ns).map dT) ((k + 2 : Nat) : Int) = some (dT r) := atI_nat (base_get e)
theorem lt2 {k : Nat} : decide (((k + 2 : Nat) : Int) < 2) = false := decide_eq_false (by omega)
theorem top_ok {f : Nat} (H : Has T f Btop 3 3 true) (hF : T.fok 0 "nodes" = true) (S : SAt h s a b ns) {x y : Nat} {r q : Nd} (ex : ns[x]? = some r) (ey : ns[y]? = some q) : call T (n + 1) f [.ref s, dN (x + 2), dN (y + 2)] h = some (dN (min r.1 q.1), h) := by
  obtain ⟨r1, r2, r3⟩ := r
  obtain ⟨q1, q2, q3⟩ := q
  have e1 := at_n ex
  have e2 := at_n ey
  refine H.rt rfl ⟨[some (.ref s), some (dN (x + 2)), some (dN (y + 2))], ?_⟩ (leave_same rfl)
  show exB (cn T n) Btop [some (.ref s), some (dN (x + 2)), some (dN (y + 2))] h = _
  unfold Btop
  rw [exB_cons (se1 := [some (.ref s), some (dN (x + 2)), some (dN (y + 2))]) (h1 := h) ((exS_ifF (h1 := h) (by simp only [exS, ev, evA, evO, evT, evC, evI_seq, evF_disp, evF_lst, evF_slk, evF_cat, cn_cf, startD, bltD, lenD, Cr.intD, tupleD, sumD, anyD, allD, absD, minD, maxD, gcdD, binD, cmpD, truD, idxD, isiD, mthD, isN, List.map_cons, List.map_nil, List.length_cons, List.length_nil, Option.bind_some, Option.map_some, List.set_cons_zero, List.set_cons_succ, List.getElem?_cons_zero, List.getElem?_cons_succ, List.replicate, List.cons_append, List.nil_append, List.append_nil, Nat.zero_add, Nat.add_one_sub_one, Nat.sub_self, putT, putS, if_true, and_self, sz0, sz1, sz2, sz3, sz5, sz6, wipeD, Nat.reduceAdd, Nat.reduceSub, dN, lt2])).trans exB_nil)]
  rw [exB_cons (se1 := [some (.ref s), some (dN (x + 2)), some (dN (y + 2))]) (h1 := h) ((exS_ifF (h1 := h) (by simp only [exS, ev, evA, evO, evT, evC, evI_seq, evF_disp, evF_lst, evF_slk, evF_cat, cn_cf, startD, bltD, lenD, Cr.intD, tupleD, sumD, anyD, allD, absD, minD, maxD, gcdD, binD, cmpD, truD, idxD, isiD, mthD, isN, List.map_cons, List.map_nil, List.length_cons, List.length_nil, Option.bind_some, Option.map_some, List.set_cons_zero, List.set_cons_succ, List.getElem?_cons_zero, List.getElem?_cons_succ, List.replicate, List.cons_append, List.nil_append, List.append_nil, Nat.zero_add, Nat.add_one_sub_one, Nat.sub_self, putT, putS, if_true, and_self, sz0, sz1, sz2, sz3, sz5, sz6, wipeD, Nat.reduceAdd, Nat.reduceSub, dN, lt2])).trans exB_nil)]
  refine exB_rt ?_
  have em : D.int (if (q1 : Int) < (r1 : Int) then (q1 : Int) else (r1 : Int)) = dN (min r1 q1) := by
    unfold dN
    by_cases hh : q1 < r1
    · rw [if_pos (by omega), Nat.min_eq_right (by omega)]
    · rw [if_neg (by omega), Nat.min_eq_left (by omega)]
  simp only [exS, ev, evA, evO, evT, evC, evI_seq, evF_disp, evF_lst, evF_slk, evF_cat, cn_cf, startD, bltD, lenD, Cr.intD, tupleD, sumD, anyD, allD, absD, minD, maxD, gcdD, binD, cmpD, truD, idxD, isiD, mthD, isN, List.map_cons, List.map_nil, List.length_cons, List.length_nil, Option.bind_some, Option.map_some, List.set_cons_zero, List.set_cons_succ, List.getElem?_cons_zero, List.getElem?_cons_succ, List.replicate, List.cons_append, List.nil_append, List.append_nil, Nat.zero_add, Nat.add_one_sub_one, Nat.sub_self, putT, putS, if_true, and_self, sz0, sz1, sz2, sz3, sz5, sz6, wipeD, Nat.reduceAdd, Nat.reduceSub, cn_fok, fld_nodes hF S, dN, S.a, e1, e2, dT, at0]
  exact congrArg (fun d => some (Fl.rt d, [some (D.ref s), some (D.int ((x + 2 : Nat) : Int)), some (D.int ((y + 2 : Nat) : Int))], h)) em
def Bside : CB := (.cons (.ife (.or (.cmp .Lt (.var 1) (.cst (.int 2))) (.cmp .NotEq (.idx (.idx (.fld (.var 0) "nodes") (.var 1)) (.cst (.int 0))) (.var 2))) (.cons (.ret (.var 1)) .nil) .nil) (.cons (.ife (.tru (.var 3)) (.cons (.ret (.idx (.idx (.fld (.var 0) "nodes") (.var 1)) (.cst (.int 2)))) .nil) .nil) (.cons (.ret (.idx (.idx (.fld (.var 0) "nodes") (.var 1)) (.cst (.int 1)))) .nil)))
def sideP (x : Nat) (r : Nd) (v : Nat) (yes : Bool) : Nat := if r.1 = v then (if yes then r.2.2 else r.2.1) else x + 2
theorem at2 {α : Type} {x y z : α} {xs : List α} : atI (x :: y :: z :: xs) 2 = some z := atI_nat (j := 2) rfl
theorem side_ok {f : Nat} (H : Has T f Bside 4 4 true) (hF : T.fok 0 "nodes" = true) (S : SAt h s a b ns) {x v : Nat} {r : Nd} (ex : ns[x]? = some r) (yes : Bool) : call T (n + 1) f [.ref s, dN (x + 2), dN v, .bl yes] h = some (dN (sideP x r v yes), h) := by
  obtain ⟨r1, r2, r3⟩ := r
  have e1 := at_n ex
  have en : evT (cn T n) (.or (.cmp .Lt (.var 1) (.cst (.int 2))) (.cmp .NotEq (.idx (.idx (.fld (.var 0) "nodes") (.var 1)) (.cst (.int 0))) (.var 2))) [some (.ref s), some (dN (x + 2)), some (dN v), some (.bl yes)] h = some (!decide (r1 = v), h) := by
    simp only [exS, ev, evA, evO, evT, evC, evI_seq, evF_disp, evF_lst, evF_slk, evF_cat, cn_cf, startD, bltD, lenD, Cr.intD, tupleD, sumD, anyD, allD, absD, minD, maxD, gcdD, binD, cmpD, truD, idxD, isiD, mthD, isN, List.map_cons, List.map_nil, List.length_cons, List.length_nil, Option.bind_some, Option.map_some, List.set_cons_zero, List.set_cons_succ, List.getElem?_cons_zero, List.getElem?_cons_succ, List.replicate, List.cons_append, List.nil_append, List.append_nil, Nat.zero_add, Nat.add_one_sub_one, Nat.sub_self, putT, putS, if_true, and_self, sz0, sz1, sz2, sz3, sz5, sz6, wipeD, Nat.reduceAdd, Nat.reduceSub, cn_fok, fld_nodes hF S, dN, S.a, e1, dT, at0, lt2, eqD_int, nat_beq]
  refine H.rt rfl ⟨[some (.ref s), some (dN (x + 2)), some (dN v), some (.bl yes)], ?_⟩ (leave_same rfl)
  show exB (cn T n) Bside [some (.ref s), some (dN (x + 2)), some (dN v), some (.bl yes)] h = _
  unfold sideP
  by_cases hv : r1 = v
  · rw [decide_eq_true hv] at en
    rw [if_pos hv, Bside, exB_cons ((exS_ifF en).trans exB_nil)]
    cases yes with
    | true =>
      refine exB_rt ((exS_ifT (h1 := h) (by simp only [exS, ev, evA, evO, evT, evC, evI_seq, evF_disp, evF_lst, evF_slk, evF_cat, cn_cf, startD, bltD, lenD, Cr.intD, tupleD, sumD, anyD, allD, absD, minD, maxD, gcdD, binD, cmpD, truD, idxD, isiD, mthD, isN, List.map_cons, List.map_nil, List.length_cons, List.length_nil, Option.bind_some, Option.map_some, List.set_cons_zero, List.set_cons_succ, List.getElem?_cons_zero, List.getElem?_cons_succ, List.replicate, List.cons_append, List.nil_append, List.append_nil, Nat.zero_add, Nat.add_one_sub_one, Nat.sub_self, putT, putS, if_true, and_self, sz0, sz1, sz2, sz3, sz5, sz6, wipeD, Nat.reduceAdd, Nat.reduceSub])).trans (exB_rt ?_))
      simp only [exS, ev, evA, evO, evT, evC, evI_seq, evF_disp, evF_lst, evF_slk, evF_cat, cn_cf, startD, bltD, lenD, Cr.intD, tupleD, sumD, anyD, allD, absD, minD, maxD, gcdD, binD, cmpD, truD, idxD, isiD, mthD, isN, List.map_cons, List.map_nil, List.length_cons, List.length_nil, Option.bind_some, Option.map_some, List.set_cons_zero, List.set_cons_succ, List.getElem?_cons_zero, List.getElem?_cons_succ, List.replicate, List.cons_append, List.nil_append, List.append_nil, Nat.zero_add, Nat.add_one_sub_one, Nat.sub_self, putT, putS, if_true, and_self, sz0, sz1, sz2, sz3, sz5, sz6, wipeD, Nat.reduceAdd, Nat.reduceSub, cn_fok, fld_nodes hF S, dN, S.a, e1, dT, at2]
    | false =>
      rw [exB_cons (se1 := [some (.ref s), some (dN (x + 2)), some (dN v), some (.bl false)]) (h1 := h) ((exS_ifF (h1 := h) (by simp only [exS, ev, evA, evO, evT, evC, evI_seq, evF_disp, evF_lst, evF_slk, evF_cat, cn_cf, startD, bltD, lenD, Cr.intD, tupleD, sumD, anyD, allD, absD, minD, maxD, gcdD, binD, cmpD, truD, idxD, isiD, mthD, isN, List.map_cons, List.map_nil, List.length_cons, List.length_nil, Option.bind_some, Option.map_some, List.set_cons_zero, List.set_cons_succ, List.getElem?_cons_zero, List.getElem?_cons_succ, List.replicate, List.cons_append, List.nil_append, List.append_nil, Nat.zero_add, Nat.add_one_sub_one, Nat.sub_self, putT, putS, if_true, and_self, sz0, sz1, sz2, sz3, sz5, sz6, wipeD, Nat.reduceAdd, Nat.reduceSub])).trans exB_nil)]
      refine exB_rt ?_
      simp only [exS, ev, evA, evO, evT, evC, evI_seq, evF_disp, evF_lst, evF_slk, evF_cat, cn_cf, startD, bltD, lenD, Cr.intD, tupleD, sumD, anyD, allD, absD, minD, maxD, gcdD, binD, cmpD, truD, idxD, isiD, mthD, isN, List.map_cons, List.map_nil, List.length_cons, List.length_nil, Option.bind_some, Option.map_some, List.set_cons_zero, List.set_cons_succ, List.getElem?_cons_zero, List.getElem?_cons_succ, List.replicate, List.cons_append, List.nil_append, List.append_nil, Nat.zero_add, Nat.add_one_sub_one, Nat.sub_self, putT, putS, if_true, and_self, sz0, sz1, sz2, sz3, sz5, sz6, wipeD, Nat.reduceAdd, Nat.reduceSub, cn_fok, fld_nodes hF S, dN, S.a, e1, dT, at1]
      rfl
  · rw [decide_eq_false hv] at en
    rw [if_neg hv, Bside]
    refine exB_rt ((exS_ifT en).trans (exB_rt ?_))
    simp only [exS, ev, evA, evO, evT, evC, evI_seq, evF_disp, evF_lst, evF_slk, evF_cat, cn_cf, startD, bltD, lenD, Cr.intD, tupleD, sumD, anyD, allD, absD, minD, maxD, gcdD, binD, cmpD, truD, idxD, isiD, mthD, isN, List.map_cons, List.map_nil, List.length_cons, List.length_nil, Option.bind_some, Option.map_some, List.set_cons_zero, List.set_cons_succ, List.getElem?_cons_zero, List.getElem?_cons_succ, List.replicate, List.cons_append, List.nil_append, List.append_nil, Nat.zero_add, Nat.add_one_sub_one, Nat.sub_self, putT, putS, if_true, and_self, sz0, sz1, sz2, sz3, sz5, sz6, wipeD, Nat.reduceAdd, Nat.reduceSub]
/-- of the two ends -/
theorem side_low {f : Nat} (H : Has T f Bside 4 4 true) {x v : Nat} (hx : x < 2) (yes : Bool) : call T (n + 1) f [.ref s, dN x, dN v, .bl yes] h = some (dN x, h) := by
  have e1 : decide ((x : Int) < 2) = true := decide_eq_true (by omega)
  refine H.rt rfl ⟨[some (.ref s), some (dN x), some (dN v), some (.bl yes)], ?_⟩ (leave_same rfl)
  unfold Bside
  refine exB_rt ((exS_ifT (h1 := h) (by simp only [exS, ev, evA, evO, evT, evC, evI_seq, evF_disp, evF_lst, evF_slk, evF_cat, cn_cf, startD, bltD, lenD, Cr.intD, tupleD, sumD, anyD, allD, absD, minD, maxD, gcdD, binD, cmpD, truD, idxD, isiD, mthD, isN, List.map_cons, List.map_nil, List.length_cons, List.length_nil, Option.bind_some, Option.map_some, List.set_cons_zero, List.set_cons_succ, List.getElem?_cons_zero, List.getElem?_cons_succ, List.replicate, List.cons_append, List.nil_append, List.append_nil, Nat.zero_add, Nat.add_one_sub_one, Nat.sub_self, putT, putS, if_true, and_self, sz0, sz1, sz2, sz3, sz5, sz6, wipeD, Nat.reduceAdd, Nat.reduceSub, dN, e1])).trans (exB_rt ?_))
  simp only [exS, ev, evA, evO, evT, evC, evI_seq, evF_disp, evF_lst, evF_slk, evF_cat, cn_cf, startD, bltD, lenD, Cr.intD, tupleD, sumD, anyD, allD, absD, minD, maxD, gcdD, binD, cmpD, truD, idxD, isiD, mthD, isN, List.map_cons, List.map_nil, List.length_cons, List.length_nil, Option.bind_some, Option.map_some, List.set_cons_zero, List.set_cons_succ, List.getElem?_cons_zero, List.getElem?_cons_succ, List.replicate, List.cons_append, List.nil_append, List.append_nil, Nat.zero_add, Nat.add_one_sub_one, Nat.sub_self, putT, putS, if_true, and_self, sz0, sz1, sz2, sz3, sz5, sz6, wipeD, Nat.reduceAdd, Nat.reduceSub]
end
end Cr
/-! The store 3: what a node says. -/
namespace Cr
open PySem PySem.Spec PyProof.Rows L2
def semF (ns : List Nd) (g : Nat → Bool) : Nat → Nat → Bool
  | 0, _ => false
  | _ + 1, 0 => false
  | _ + 1, 1 => true
  | f + 1, j + 2 => match ns[j]? with
    | some r => if g r.1 then semF ns g f r.2.2 else semF ns g f r.2.1
    | none => false
/-- what the node k says of g -/
def sem (ns : List Nd) (g : Nat → Bool) (k : Nat) : Bool := semF ns g (k + 1) k
theorem semF_mono {M : Nat} {ns : List Nd} {g : Nat → Bool} (W : Wf M ns) : ∀ (f k : Nat), k < f → semF ns g f k = semF ns g (k + 1) k := by
  intro f
  induction f using Nat.strongRecOn with
  | _ f ih =>
    intro k hk
    match f, k, hk with
    | f + 1, 0, _ => rfl
    | f + 1, 1, _ => rfl
    | f + 1, j + 2, hk =>
      show (match ns[j]? with
        | some r => if g r.1 then semF ns g f r.2.2 else semF ns g f r.2.1
        | none => false) = (match ns[j]? with
        | some r => if g r.1 then semF ns g (j + 2) r.2.2 else semF ns g (j + 2) r.2.1
        | none => false)
      cases e : ns[j]? with
      | none => rfl
      | some r =>
        obtain ⟨p, w, i⟩ := r
        obtain ⟨_, hw, hi, _, _⟩ := W.ok j p w i e
        show (if g p then semF ns g f i else semF ns g f w) = (if g p then semF ns g (j + 2) i else semF ns g (j + 2) w)
        rw [ih f (by omega) i (by omega), ih f (by omega) w (by omega), ih (j + 2) (by omega) i hi, ih (j + 2) (by omega) w hw]
theorem sem0 {ns : List Nd} {g : Nat → Bool} : sem ns g 0 = false := rfl
theorem sem1 {ns : List Nd} {g : Nat → Bool} : sem ns g 1 = true := rfl
theorem sem_node {M : Nat} {ns : List Nd} {g : Nat → Bool} (W : Wf M ns) {j p w i : Nat} (e : ns[j]? = some (p, w, i)) : sem ns g (j + 2) = if g p then sem ns g i else sem ns g w := by
  obtain ⟨_, hw, hi, _, _⟩ := W.ok j p w i e
  show (match ns[j]? with
        | some r => if g r.1 then semF ns g (j + 2) r.2.2 else semF ns g (j + 2) r.2.1
        | none => false) = _
  rw [e]
  show (if g p then semF ns g (j + 2) i else semF ns g (j + 2) w) = _
  rw [semF_mono W (j + 2) i hi, semF_mono W (j + 2) w hw]
  rfl
theorem semF_app {M : Nat} {ns ex : List Nd} {g : Nat → Bool} (W : Wf M ns) : ∀ (f k : Nat), k < ns.length + 2 → semF (ns ++ ex) g f k = semF ns g f k := by
  intro f
  induction f with
  | zero => intro k _; rfl
  | succ f ih =>
    intro k hk
    match k, hk with
    | 0, _ => rfl
    | 1, _ => rfl
    | j + 2, hk =>
      show (match (ns ++ ex)[j]? with
        | some r => if g r.1 then semF (ns ++ ex) g f r.2.2 else semF (ns ++ ex) g f r.2.1
        | none => false) = (match ns[j]? with
        | some r => if g r.1 then semF ns g f r.2.2 else semF ns g f r.2.1
        | none => false)
      rw [List.getElem?_append_left (by omega)]
      cases e : ns[j]? with
      | none => rfl
      | some r =>
        obtain ⟨p, w, i⟩ := r
        obtain ⟨_, hw, hi, _, _⟩ := W.ok j p w i e
        show (if g p then semF (ns ++ ex) g f i else semF (ns ++ ex) g f w) = (if g p then semF ns g f i else semF ns g f w)
        rw [ih i (by omega), ih w (by omega)]
theorem sem_app {M : Nat} {ns ex : List Nd} {g : Nat → Bool} (W : Wf M ns) {k : Nat} (h : k < ns.length + 2) : sem (ns ++ ex) g k = sem ns g k := semF_app W (k + 1) k h
/-- more nodes -/
def Ext (ns ns' : List Nd) : Prop := ∃ ex, ns' = ns ++ ex
theorem Ext.refl (ns : List Nd) : Ext ns ns := ⟨[], (List.append_nil ns).symm⟩
theorem Ext.trans {a b c : List Nd} (h : Ext a b) (k : Ext b c) : Ext a c := by
  obtain ⟨x, rfl⟩ := h
  obtain ⟨y, rfl⟩ := k
  exact ⟨x ++ y, List.append_assoc _ _ _⟩
theorem Ext.sem {M : Nat} {ns ns' : List Nd} {g : Nat → Bool} (e : Ext ns ns') (W : Wf M ns) {k : Nat} (h : k < ns.length + 2) : Cr.sem ns' g k = Cr.sem ns g k := by
  obtain ⟨x, rfl⟩ := e
  exact sem_app W h
theorem Ext.plc {M : Nat} {ns ns' : List Nd} (e : Ext ns ns') {k : Nat} (h : k < ns.length + 2) : Cr.plc M ns' k = Cr.plc M ns k := by
  obtain ⟨x, rfl⟩ := e
  exact plc_app h
theorem Ext.len {ns ns' : List Nd} (e : Ext ns ns') : ns.length ≤ ns'.length := by
  obtain ⟨x, rfl⟩ := e
  rw [List.length_append]
  omega
/-- what make makes -/
theorem mkP_ok {M : Nat} {ns : List Nd} (W : Wf M ns) {v w i : Nat} (hv : v < M) (hw : w < ns.length + 2) (hi : i < ns.length + 2) (pw : v < plc M ns w) (pi : v < plc M ns i) :
    Wf M (mkP ns (v, w, i)).2 ∧ Ext ns (mkP ns (v, w, i)).2 ∧ (mkP ns (v, w, i)).2.length ≤ ns.length + 1 ∧ (mkP ns (v, w, i)).1 < (mkP ns (v, w, i)).2.length + 2 ∧ v ≤ plc M (mkP ns (v, w, i)).2 (mkP ns (v, w, i)).1 ∧
      ∀ g, sem (mkP ns (v, w, i)).2 g (mkP ns (v, w, i)).1 = if g v then sem ns g i else sem ns g w := by
  unfold mkP
  by_cases e : w = i
  · rw [if_pos e]
    subst e
    refine ⟨W, Ext.refl _, Nat.le_succ _, hw, by show v ≤ plc M ns w; omega, fun g => ?_⟩
    show sem ns g w = _
    split <;> rfl
  · rw [if_neg e]
    obtain ⟨ex, ea⟩ := addT_app (v, w, i) ns
    have hm := addT_mem (v, w, i) ns
    have hg := posT_get hm
    have hlt := (List.getElem?_eq_some_iff.mp hg).1
    have wf : Wf M (addT (v, w, i) ns) := by
      unfold addT
      split
      · exact W
      · refine ⟨fun j q w' i' e => ?_⟩
        by_cases hj : j < ns.length
        · rw [List.getElem?_append_left hj] at e
          obtain ⟨k1, k2, k3, k4, k5⟩ := W.ok j q w' i' e
          exact ⟨k1, k2, k3, by rw [plc_app (by omega)]; exact k4, by rw [plc_app (by omega)]; exact k5⟩
        · have h5 := (List.getElem?_eq_some_iff.mp e).1
          rw [List.length_append, List.length_singleton] at h5
          have h6 : j = ns.length := by omega
          subst h6
          rw [List.getElem?_append_right (Nat.le_refl _), Nat.sub_self] at e
          cases e
          exact ⟨hv, hw, hi, by rw [plc_app hw]; exact pw, by rw [plc_app hi]; exact pi⟩
    refine ⟨wf, ⟨ex, ea⟩, addT_len _ _, by show posT _ _ + 2 < (addT _ _).length + 2; omega, ?_, fun g => ?_⟩
    · show v ≤ plc M (addT (v, w, i) ns) (posT (v, w, i) (addT (v, w, i) ns) + 2)
      rw [plc_at, hg]
      exact Nat.le_refl _
    · show sem (addT (v, w, i) ns) g (posT (v, w, i) (addT (v, w, i) ns) + 2) = _
      rw [sem_node wf hg, ea, sem_app W hi, sem_app W hw]
end Cr
/-! The store 4: negated. -/
namespace Cr
open PySem PySem.Spec PyProof.Rows L2
/-! ### a memo by numbers -/
def mD (memo : List (Nat × Nat)) : List (L2.Key × D) := memo.map fun p => ((.inl (p.1 : Int) : L2.Key), dN p.2)
def memoG (memo : List (Nat × Nat)) (k : Nat) : Option Nat := (memo.find? fun p => decide (p.1 = k)).map (·.2)
def putM (memo : List (Nat × Nat)) (k r : Nat) : List (Nat × Nat) :=
  if (memo.any fun p => decide (p.1 = k)) = true then memo.map (fun p => if p.1 = k then (p.1, r) else p) else memo ++ [(k, r)]
theorem key_nat {a b : Nat} : ((.inl (a : Int) : L2.Key) = .inl (b : Int)) ↔ a = b := by
  constructor
  · intro h
    have := Sum.inl.inj h
    omega
  · intro h; rw [h]
theorem mD_val {k : Nat} : ∀ memo : List (Nat × Nat), valD (mD memo) (.inl (k : Int)) = (memoG memo k).map dN
  | [] => rfl
  | p :: memo => by
    by_cases e : p.1 = k
    · have h1 : valD (mD (p :: memo)) (.inl (k : Int)) = some (dN p.2) := by simp [mD, valD, List.find?_cons, e]
      have h2 : memoG (p :: memo) k = some p.2 := by simp [memoG, List.find?_cons, e]
      rw [h1, h2]
      rfl
    · have hk : ¬ ((p.1 : Nat) : Int) = (k : Int) := by omega
      have h1 : valD (mD (p :: memo)) (.inl (k : Int)) = valD (mD memo) (.inl (k : Int)) := by simp [mD, valD, List.find?_cons, hk]
      have h2 : memoG (p :: memo) k = memoG memo k := by simp [memoG, List.find?_cons, e]
      rw [h1, h2, mD_val memo]
theorem mD_any {k : Nat} : ∀ memo : List (Nat × Nat), ((mD memo).any fun kv => decide (kv.1 = .inl (k : Int))) = (memo.any fun p => decide (p.1 = k))
  | [] => rfl
  | p :: memo => by
    show (decide ((.inl (p.1 : Int) : L2.Key) = .inl (k : Int)) || (mD memo).any fun kv => decide (kv.1 = .inl (k : Int))) = (decide (p.1 = k) || memo.any fun p => decide (p.1 = k))
    rw [mD_any memo]
    congr 1
    exact decide_eq_decide.mpr key_nat
theorem mD_put {k r : Nat} (memo : List (Nat × Nat)) : putD (mD memo) (.inl (k : Int)) (dN r) = mD (putM memo k r) := by
  unfold putD putM
  rw [mD_any]
  split
  · unfold mD
    rw [List.map_map, List.map_map]
    refine List.map_congr_left fun p _ => ?_
    show (if (.inl (p.1 : Int) : L2.Key) = .inl (k : Int) then ((.inl (p.1 : Int) : L2.Key), dN r) else (.inl (p.1 : Int), dN p.2)) = ((.inl ((if p.1 = k then (p.1, r) else p).1 : Int) : L2.Key), dN (if p.1 = k then (p.1, r) else p).2)
    by_cases e : p.1 = k
    · rw [if_pos (key_nat.mpr e), if_pos e]
    · rw [if_neg (fun z => e (key_nat.mp z)), if_neg e]
  · unfold mD
    rw [List.map_append]
    rfl
theorem memoG_mapped {k r : Nat} : ∀ (memo : List (Nat × Nat)) (j : Nat), memoG (memo.map fun p => if p.1 = k then (p.1, r) else p) j = if j = k then (if (memo.any fun p => decide (p.1 = k)) = true then some r else none) else memoG memo j
  | [], j => by
    show none = _
    split <;> rfl
  | p :: memo, j => by
    have ih := memoG_mapped (k := k) (r := r) memo j
    by_cases e : p.1 = k
    · by_cases ej : j = k
      · subst ej
        simp [memoG, List.find?_cons, e]
      · have h1 : ¬ p.1 = j := fun z => ej (by rw [← z, e])
        have h2 : memoG (p :: memo) j = memoG memo j := by simp [memoG, List.find?_cons, h1]
        have h3 : memoG ((p :: memo).map fun p => if p.1 = k then (p.1, r) else p) j = memoG (memo.map fun p => if p.1 = k then (p.1, r) else p) j := by
          rw [List.map_cons, if_pos e]
          simp [memoG, List.find?_cons, h1]
        rw [h3, ih, if_neg ej, if_neg ej, h2]
    · by_cases ej : p.1 = j
      · have hjk : ¬ j = k := fun z => e (by rw [ej, z])
        rw [if_neg hjk, List.map_cons, if_neg e]
        have hd : decide (p.1 = j) = true := decide_eq_true ej
        unfold memoG
        rw [List.find?_cons, List.find?_cons, hd]
      · have h2 : memoG (p :: memo) j = memoG memo j := by simp [memoG, List.find?_cons, ej]
        have h3 : memoG ((p :: memo).map fun p => if p.1 = k then (p.1, r) else p) j = memoG (memo.map fun p => if p.1 = k then (p.1, r) else p) j := by
          rw [List.map_cons, if_neg e]
          simp [memoG, List.find?_cons, ej]
        have h4 : ((p :: memo).any fun p => decide (p.1 = k)) = (memo.any fun p => decide (p.1 = k)) := by simp [e]
        rw [h3, ih, h2, h4]
theorem memoG_put {k r : Nat} (memo : List (Nat × Nat)) (j : Nat) : memoG (putM memo k r) j = if j = k then some r else memoG memo j := by
  unfold putM
  by_cases ha : (memo.any fun p => decide (p.1 = k)) = true
  · rw [if_pos ha, memoG_mapped, if_pos ha]
  · rw [if_neg ha]
    have hnone : memoG memo k = none := by
      unfold memoG
      have : (memo.find? fun p => decide (p.1 = k)) = none := by
        rw [List.find?_eq_none]
        intro p hp hd
        exact ha (List.any_eq_true.mpr ⟨p, hp, hd⟩)
      rw [this]
      rfl
    by_cases ej : j = k
    · subst ej
      rw [if_pos rfl]
      unfold memoG at hnone ⊢
      rw [List.find?_append]
      cases hf : memo.find? fun p => decide (p.1 = j) with
      | none => simp
      | some p => rw [hf] at hnone; cases hnone
    · rw [if_neg ej]
      unfold memoG
      rw [List.find?_append]
      have : ¬ k = j := fun z => ej z.symm
      cases hf : memo.find? fun p => decide (p.1 = j) with
      | none => simp [this]
      | some p => rfl
theorem putM_len (memo : List (Nat × Nat)) (k r : Nat) : (putM memo k r).length ≤ memo.length + 1 := by
  unfold putM
  split
  · rw [List.length_map]; omega
  · rw [List.length_append, List.length_singleton]; exact Nat.le_refl _
theorem mD_len (memo : List (Nat × Nat)) : (mD memo).length = memo.length := by unfold mD; rw [List.length_map]
theorem mD_pure : ∀ memo : List (Nat × Nat), pureDs ((mD memo).map (·.2)) = true
  | [] => rfl
  | _ :: memo => mD_pure memo
/-- the memo of the negated -/
structure NOk (M : Nat) (ns : List Nd) (memo : List (Nat × Nat)) : Prop where
  ok : ∀ k r, memoG memo k = some r → k < ns.length + 2 ∧ r < ns.length + 2 ∧ plc M ns k ≤ plc M ns r ∧ ∀ g, sem ns g r = !sem ns g k
theorem NOk.ext {M : Nat} {ns ns' : List Nd} {memo : List (Nat × Nat)} (W : Wf M ns) (e : Ext ns ns') (h : NOk M ns memo) : NOk M ns' memo :=
  ⟨fun k r hk => by
    obtain ⟨h1, h2, h3, h4⟩ := h.ok k r hk
    have := e.len
    exact ⟨by omega, by omega, by rw [e.plc h1, e.plc h2]; exact h3, fun g => by rw [e.sem W h1, e.sem W h2]; exact h4 g⟩⟩
/-- the heap with other nodes and another memo -/
def nh (h : Hs) (a b m : Nat) (ns : List Nd) (memo : List (Nat × Nat)) : Hs := (sth h a b ns).set m (.dK (mD memo))
theorem nh_closed {h : Hs} {a b m : Nat} {ns : List Nd} {memo : List (Nat × Nat)} {k : Nat} : ∀ (n : Nat) (o : O), (nh h a b m ns memo)[n]? = some o → h[n]? = some o ∨ clsdO k o = true := by
  intro n o e
  unfold nh at e
  by_cases hm : m = n
  · subst hm
    have hl := (List.getElem?_eq_some_iff.mp e).1
    rw [List.length_set] at hl
    rw [List.getElem?_set_self hl] at e
    cases e
    exact .inr (clsds_pure (mD_pure memo))
  · rw [List.getElem?_set_ne hm] at e
    exact sth_closed n o e
theorem nh_len {h : Hs} {a b m : Nat} {ns : List Nd} {memo : List (Nat × Nat)} : (nh h a b m ns memo).length = h.length := by unfold nh; rw [List.length_set, sth_len]
end Cr
/-! The store 5: negated. -/
namespace Cr
open PySem PySem.Spec PyProof.Rows L2
section
variable {T : Tb}
def Bneg (fm fg : Nat) : CB := (.cons (.ife (.cmp .Lt (.var 1) (.cst (.int 2))) (.cons (.ret (.bin .Sub (.cst (.int 1)) (.var 1))) .nil) .nil) (.cons (.ife (.cmp .NotIn (.var 1) (.var 2)) (.cons (.setT [3, 4, 5] (.idx (.fld (.var 0) "nodes") (.var 1))) (.cons (.sub (.var 2) (.var 1) (.mcl 0 "make" fm (.var 0) (.cons (.var 3) (.cons (.mcl 0 "negated" fg (.var 0) (.cons (.var 4) (.cons (.var 2) .nil))) (.cons (.mcl 0 "negated" fg (.var 0) (.cons (.var 5) (.cons (.var 2) .nil))) .nil))))) .nil)) .nil) (.cons (.ret (.idx (.var 2) (.var 1))) .nil)))
theorem ins_no {h : Hs} {s a b : Nat} {ns : List Nd} (S : SAt h s a b ns) {m : Str} (h1 : (m == ("nodes" : Str)) = false ∧ (m == ("places" : Str)) = false) : isIns h 0 m (.ref s) = true := by
  have e : ([(("nodes" : Str), D.ref a), ("places", .ref b)] : List (Str × D)).lookup m = none := by
    rw [List.lookup_cons, h1.1, List.lookup_cons, h1.2]
    rfl
  simp only [isIns, S.o, e]
  rfl
theorem ev_idx {c : Cn} {se : S} {h h1 h2 : Hs} {x y : CE} {d e r : D} (e1 : ev c x se h = some (d, h1)) (e2 : ev c y se h1 = some (e, h2)) (e3 : idxD h2 d e = some r) : ev c (.idx x y) se h = some (r, h2) := by
  show ((ev c x se h).bind fun p => (ev c y se p.2).bind fun q => (idxD q.2 p.1 q.1).map fun d => (d, q.2)) = _
  rw [e1]
  show ((ev c y se h1).bind fun q => (idxD q.2 d q.1).map fun d => (d, q.2)) = _
  rw [e2]
  show ((idxD h2 d e).map fun d => (d, h2)) = _
  rw [e3]
  rfl
theorem SAt.nh {h : Hs} {s a b m : Nat} {ns : List Nd} (S : SAt h s a b ns) (h1 : m ≠ s) (h2 : m ≠ a) (h3 : m ≠ b) (ns' : List Nd) (memo : List (Nat × Nat)) : SAt (nh h a b m ns' memo) s a b ns' := (S.to ns').upd h1 h2 h3
theorem nh_m {h : Hs} {a b m : Nat} {ns : List Nd} {memo : List (Nat × Nat)} (hm : m < h.length) : (nh h a b m ns memo)[m]? = some (.dK (mD memo)) := by
  unfold Cr.nh
  rw [List.getElem?_set_self (by rw [sth_len]; exact hm)]
theorem sth_set {h : Hs} {a b m : Nat} {o : O} {ns : List Nd} (h2 : m ≠ a) (h3 : m ≠ b) : sth (h.set m o) a b ns = (sth h a b ns).set m o := by
  unfold sth
  rw [List.set_comm _ _ h2, List.set_comm _ _ h3]
theorem nh_nh {h : Hs} {a b m : Nat} {ns ns' : List Nd} {memo memo' : List (Nat × Nat)} (hn : a ≠ b) (h2 : m ≠ a) (h3 : m ≠ b) : nh (nh h a b m ns memo) a b m ns' memo' = nh h a b m ns' memo' := by
  unfold Cr.nh
  rw [sth_set h2 h3, sth_sth hn, List.set_set]
theorem sth_nh {h : Hs} {a b m : Nat} {ns ns' : List Nd} {memo : List (Nat × Nat)} (hn : a ≠ b) (h2 : m ≠ a) (h3 : m ≠ b) : sth (nh h a b m ns memo) a b ns' = nh h a b m ns' memo := by
  unfold Cr.nh
  rw [sth_set h2 h3, sth_sth hn]
theorem dput_nh {h : Hs} {a b m : Nat} {ns : List Nd} {memo : List (Nat × Nat)} (hm : m < h.length) (hl : memo.length ≤ 100000) (k r : Nat) : dputD (nh h a b m ns memo) m (dN k) (dN r) = some (nh h a b m ns (putM memo k r)) := by
  have hz : (mD memo).length < sizeLine := by rw [mD_len]; have := sz_le (show memo.length + 1 ≤ 1000000 by omega); omega
  have e : keyD (dN k) = some (.inl (k : Int)) := rfl
  simp only [dputD, nh_m hm, e, Option.bind_some, if_pos hz, mD_put]
  unfold Cr.nh
  rw [List.set_set]
theorem ev_mcl {c : Cn} {se : S} {h h2 : Hs} {C f : Nat} {m : Str} {x : CE} {es : CA} {d : D} {ds : List D} (e1 : ev c x se h = some (d, h)) (hi : isIns h C m d = true) (e2 : evA c es se h = some (ds, h2)) : ev c (.mcl C m f x es) se h = c.cf f (d :: ds) h2 := by
  show ((ev c x se h).bind fun p => if isIns p.2 C m p.1 then (evA c es se p.2).bind fun q => c.cf f (p.1 :: q.1) q.2 else none) = _
  rw [e1]
  show (if isIns h C m d then (evA c es se h).bind fun q => c.cf f (d :: q.1) q.2 else none) = _
  rw [if_pos hi, e2]
  rfl
theorem dget_m {h : Hs} {m k : Nat} {memo : List (Nat × Nat)} (hm : h[m]? = some (.dK (mD memo))) : dgetD h m (dN k) = some ((memoG memo k).map dN) := by
  have e : keyD (dN k) = some (.inl (k : Int)) := rfl
  simp only [dgetD, hm, e, Option.map_some, mD_val]
theorem in_m {h : Hs} {m k : Nat} {memo : List (Nat × Nat)} (hm : h[m]? = some (.dK (mD memo))) : inD h (dN k) (.ref m) = some (memoG memo k).isSome := by
  simp only [inD, hm, dget_m hm, Option.map_some, Option.isSome_map]
theorem idx_m {h : Hs} {m k r : Nat} {memo : List (Nat × Nat)} (hm : h[m]? = some (.dK (mD memo))) (e : memoG memo k = some r) : idxD h (.ref m) (dN k) = some (dN r) := by
  simp only [idxD, hm, dget_m hm, e, Option.map_some, Option.bind_some, id]
/-- negated: the node that says the other thing -/
def NegR (T : Tb) (fg M : Nat) (h : Hs) (s a b m : Nat) (ns : List Nd) (memo : List (Nat × Nat)) (k L E : Nat) : Prop :=
  ∃ ns' memo' r, call T L fg [.ref s, dN k, .ref m] h = some (dN r, nh h a b m ns' memo') ∧ Ext ns ns' ∧ Wf M ns' ∧ NOk M ns' memo' ∧ r < ns'.length + 2 ∧ plc M ns k ≤ plc M ns' r ∧ (∀ g, sem ns' g r = !sem ns g k) ∧ ns'.length + 1 ≤ ns.length + E ∧ memo'.length + 1 ≤ memo.length + E
theorem nh_same {h : Hs} {s a b m : Nat} {ns : List Nd} {memo : List (Nat × Nat)} (S : SAt h s a b ns) (hm : h[m]? = some (.dK (mD memo))) : nh h a b m ns memo = h := by
  unfold Cr.nh
  rw [S.same, set_id hm]
theorem neg_low {fm fg : Nat} (H : Has T fg (Bneg fm fg) 3 6 true) {M N : Nat} {h : Hs} {s a b m : Nat} {ns : List Nd} {memo : List (Nat × Nat)} {k E : Nat} (S : SAt h s a b ns) (hm : h[m]? = some (.dK (mD memo))) (W : Wf M ns) (NO : NOk M ns memo) (hk : k < 2) (hE : 1 ≤ E) : NegR T fg M h s a b m ns memo k (N + 1) E := by
  refine ⟨ns, memo, 1 - k, ?_, Ext.refl _, W, NO, by omega, ?_, fun g => ?_, by omega, by omega⟩
  · rw [nh_same S hm]
    have e1 : decide ((k : Int) < 2) = true := decide_eq_true (by omega)
    have e2 : (1 : Int) - (k : Int) = ((1 - k : Nat) : Int) := by omega
    refine H.rt rfl ⟨[some (.ref s), some (dN k), some (.ref m), none, none, none], ?_⟩ (leave_same rfl)
    unfold Bneg
    refine exB_rt ((exS_ifT (h1 := h) (by simp only [exS, ev, evA, evO, evT, evC, evI_seq, evF_disp, evF_lst, evF_slk, evF_cat, cn_cf, startD, bltD, lenD, Cr.intD, tupleD, sumD, anyD, allD, absD, minD, maxD, gcdD, binD, cmpD, truD, idxD, isiD, mthD, isN, List.map_cons, List.map_nil, List.length_cons, List.length_nil, Option.bind_some, Option.map_some, List.set_cons_zero, List.set_cons_succ, List.getElem?_cons_zero, List.getElem?_cons_succ, List.replicate, List.cons_append, List.nil_append, List.append_nil, Nat.zero_add, Nat.add_one_sub_one, Nat.sub_self, putT, putS, if_true, and_self, sz0, sz1, sz2, sz3, sz5, sz6, wipeD, Nat.reduceAdd, Nat.reduceSub, dN, e1])).trans (exB_rt ?_))
    simp only [exS, ev, evA, evO, evT, evC, evI_seq, evF_disp, evF_lst, evF_slk, evF_cat, cn_cf, startD, bltD, lenD, Cr.intD, tupleD, sumD, anyD, allD, absD, minD, maxD, gcdD, binD, cmpD, truD, idxD, isiD, mthD, isN, List.map_cons, List.map_nil, List.length_cons, List.length_nil, Option.bind_some, Option.map_some, List.set_cons_zero, List.set_cons_succ, List.getElem?_cons_zero, List.getElem?_cons_succ, List.replicate, List.cons_append, List.nil_append, List.append_nil, Nat.zero_add, Nat.add_one_sub_one, Nat.sub_self, putT, putS, if_true, and_self, sz0, sz1, sz2, sz3, sz5, sz6, wipeD, Nat.reduceAdd, Nat.reduceSub, dN, e2]
  · have : k = 0 ∨ k = 1 := by omega
    rcases this with rfl | rfl <;> exact Nat.le_refl _
  · have : k = 0 ∨ k = 1 := by omega
    rcases this with rfl | rfl <;> rfl
theorem negated_ok {fm fg : Nat} (H : Has T fg (Bneg fm fg) 3 6 true) (Hm : Has T fm Bmake 4 5 true) (hF1 : T.fok 0 "nodes" = true) (hF2 : T.fok 0 "places" = true) {M : Nat} : ∀ (d : Nat) {N : Nat} {h : Hs} {s a b m : Nat} {ns : List Nd} {memo : List (Nat × Nat)} {k : Nat},
    d ≤ N → SAt h s a b ns → h[m]? = some (.dK (mD memo)) → m ≠ s → m ≠ a → m ≠ b → Wf M ns → NOk M ns memo → k < ns.length + 2 → M ≤ plc M ns k + d → ns.length + 2 ^ d ≤ 50000 → memo.length + 2 ^ d ≤ 50000 → NegR T fg M h s a b m ns memo k (N + 2) (2 ^ d) := by
  intro d
  induction d with
  | zero =>
    intro N h s a b m ns memo k hN S hm m1 m2 m3 W NO hk hp hs1 hs2
    refine neg_low H S hm W NO ?_ (Nat.le_refl _)
    match k, hk, hp with
    | 0, _, _ => omega
    | 1, _, _ => omega
    | j + 2, hk, hp =>
      exfalso
      obtain ⟨⟨p, w, i⟩, e⟩ : ∃ r, ns[j]? = some r := ⟨_, List.getElem?_eq_getElem (by omega)⟩
      have := (W.ok j p w i e).1
      rw [plc_at, e] at hp
      have hp : M ≤ p + 0 := hp
      omega
  | succ d ih =>
    intro N h s a b m ns memo k hN S hm m1 m2 m3 W NO hk hp hs1 hs2
    have hpos := Nat.two_pow_pos d
    rw [Nat.pow_succ] at hs1 hs2 ⊢
    by_cases hk2 : k < 2
    · exact neg_low H S hm W NO hk2 (by omega)
    obtain ⟨j, rfl⟩ : ∃ j, k = j + 2 := ⟨k - 2, by omega⟩
    obtain ⟨⟨p, w, i⟩, e⟩ : ∃ r, ns[j]? = some r := ⟨_, List.getElem?_eq_getElem (by omega)⟩
    obtain ⟨k1, k2, k3, k4, k5⟩ := W.ok j p w i e
    have hpl : plc M ns (j + 2) = p := by rw [plc_at, e]
    rw [hpl] at hp
    have hml := (List.getElem?_eq_some_iff.mp hm).1
    obtain ⟨n1, n2, n3⟩ := S.ne
    have et0 : evT (cn T (N + 1)) (.cmp .Lt (.var 1) (.cst (.int 2))) [some (.ref s), some (dN (j + 2)), some (.ref m), none, none, none] h = some (false, h) := by
      simp only [exS, ev, evA, evO, evT, evC, evI_seq, evF_disp, evF_lst, evF_slk, evF_cat, cn_cf, startD, bltD, lenD, Cr.intD, tupleD, sumD, anyD, allD, absD, minD, maxD, gcdD, binD, cmpD, truD, idxD, isiD, mthD, isN, List.map_cons, List.map_nil, List.length_cons, List.length_nil, Option.bind_some, Option.map_some, List.set_cons_zero, List.set_cons_succ, List.getElem?_cons_zero, List.getElem?_cons_succ, List.replicate, List.cons_append, List.nil_append, List.append_nil, Nat.zero_add, Nat.add_one_sub_one, Nat.sub_self, putT, putS, if_true, and_self, sz0, sz1, sz2, sz3, sz5, sz6, wipeD, Nat.reduceAdd, Nat.reduceSub, dN, lt2]
    have et1 : evT (cn T (N + 1)) (.cmp .NotIn (.var 1) (.var 2)) [some (.ref s), some (dN (j + 2)), some (.ref m), none, none, none] h = some (!(memoG memo (j + 2)).isSome, h) := by
      simp only [exS, ev, evA, evO, evT, evC, evI_seq, evF_disp, evF_lst, evF_slk, evF_cat, cn_cf, startD, bltD, lenD, Cr.intD, tupleD, sumD, anyD, allD, absD, minD, maxD, gcdD, binD, cmpD, truD, idxD, isiD, mthD, isN, List.map_cons, List.map_nil, List.length_cons, List.length_nil, Option.bind_some, Option.map_some, List.set_cons_zero, List.set_cons_succ, List.getElem?_cons_zero, List.getElem?_cons_succ, List.replicate, List.cons_append, List.nil_append, List.append_nil, Nat.zero_add, Nat.add_one_sub_one, Nat.sub_self, putT, putS, if_true, and_self, sz0, sz1, sz2, sz3, sz5, sz6, wipeD, Nat.reduceAdd, Nat.reduceSub, in_m hm]
    cases hg : memoG memo (j + 2) with
    | some r =>
      rw [hg] at et1
      obtain ⟨q1, q2, q3, q4⟩ := NO.ok _ _ hg
      refine ⟨ns, memo, r, ?_, Ext.refl _, W, NO, q2, q3, q4, by omega, by omega⟩
      rw [nh_same S hm]
      refine H.rt rfl ⟨[some (.ref s), some (dN (j + 2)), some (.ref m), none, none, none], ?_⟩ (leave_same rfl)
      show exB (cn T (N + 1)) (Bneg fm fg) [some (.ref s), some (dN (j + 2)), some (.ref m), none, none, none] h = _
      rw [Bneg, exB_cons ((exS_ifF et0).trans exB_nil), exB_cons ((exS_ifF et1).trans exB_nil)]
      exact exB_rt (exS_ret (ev_idx rfl rfl (idx_m hm hg)))
    | none =>
      rw [hg] at et1
      obtain ⟨N, rfl⟩ : ∃ N', N = N' + 1 := ⟨N - 1, by omega⟩
      obtain ⟨ns1, memo1, r1, c1, x1, w1, o1, v1, p1, s1, z1, y1⟩ := ih (N := N) (by omega) S hm m1 m2 m3 W NO (k := w) (by omega) (by omega) (by omega) (by omega)
      have S1 : SAt (nh h a b m ns1 memo1) s a b ns1 := S.nh m1 m2 m3 ns1 memo1
      have pi1 : plc M ns1 i = plc M ns i := x1.plc (by omega)
      have l1 := x1.len
      obtain ⟨ns2, memo2, r2, c2, x2, w2, o2, v2, p2, s2, z2, y2⟩ := ih (N := N) (by omega) S1 (nh_m hml) m1 m2 m3 w1 o1 (k := i) (by omega) (by rw [pi1]; omega) (by omega) (by omega)
      rw [nh_nh n1 m2 m3] at c2
      have S2 : SAt (nh h a b m ns2 memo2) s a b ns2 := S.nh m1 m2 m3 ns2 memo2
      have l2 := x2.len
      have pr1 : plc M ns2 r1 = plc M ns1 r1 := x2.plc v1
      have mk := mkP_ok (M := M) w2 (v := p) (w := r1) (i := r2) k1 (by omega) v2 (by rw [pr1]; omega) (by omega)
      have c3 := make_ok (n := N + 1) Hm hF1 hF2 S2 (by omega) p r1 r2
      generalize mkP ns2 (p, r1, r2) = q at mk c3
      obtain ⟨mw, mx, ml, mv, mp, ms⟩ := mk
      rw [sth_nh n1 m2 m3] at c3
      have l3 := mx.len
      have sall : ∀ g, sem q.2 g q.1 = !sem ns g (j + 2) := fun g => by
        rw [ms g, s2 g, x2.sem w1 v1, s1 g, x1.sem W (k := i) (by omega), sem_node W e]
        split <;> rfl
      have hNO : NOk M q.2 (putM memo2 (j + 2) q.1) := ⟨fun k' r' hk' => by
        rw [memoG_put] at hk'
        split at hk'
        · rename_i ek
          subst ek
          cases hk'
          exact ⟨by omega, mv, by rw [(x1.trans (x2.trans mx)).plc (by omega), hpl]; exact mp, fun g => by rw [sall g, (x1.trans (x2.trans mx)).sem W (by omega)]⟩
        · exact (o2.ext w2 mx).ok k' r' hk'⟩
      have pl := putM_len memo2 (j + 2) q.1
      refine ⟨q.2, putM memo2 (j + 2) q.1, q.1, ?_, x1.trans (x2.trans mx), mw, hNO, mv, by rw [hpl]; exact mp, sall, by omega, by omega⟩
      have hget : memoG (putM memo2 (j + 2) q.1) (j + 2) = some q.1 := by rw [memoG_put, if_pos rfl]
      refine H.rt rfl ⟨[some (.ref s), some (dN (j + 2)), some (.ref m), some (dN p), some (dN w), some (dN i)], ?_⟩ (leave_len nh_len rfl nh_closed)
      show exB (cn T (N + 1 + 1)) (Bneg fm fg) [some (.ref s), some (dN (j + 2)), some (.ref m), none, none, none] h = _
      have t1 : exS (cn T (N + 1 + 1)) (.setT [3, 4, 5] (.idx (.fld (.var 0) "nodes") (.var 1))) [some (.ref s), some (dN (j + 2)), some (.ref m), none, none, none] h = some (.nx, [some (.ref s), some (dN (j + 2)), some (.ref m), some (dN p), some (dN w), some (dN i)], h) := by
        simp only [exS, ev, evA, evO, evT, evC, evI_seq, evF_disp, evF_lst, evF_slk, evF_cat, cn_cf, startD, bltD, lenD, Cr.intD, tupleD, sumD, anyD, allD, absD, minD, maxD, gcdD, binD, cmpD, truD, idxD, isiD, mthD, isN, List.map_cons, List.map_nil, List.length_cons, List.length_nil, Option.bind_some, Option.map_some, List.set_cons_zero, List.set_cons_succ, List.getElem?_cons_zero, List.getElem?_cons_succ, List.replicate, List.cons_append, List.nil_append, List.append_nil, Nat.zero_add, Nat.add_one_sub_one, Nat.sub_self, putT, putS, if_true, and_self, sz0, sz1, sz2, sz3, sz5, sz6, wipeD, Nat.reduceAdd, Nat.reduceSub, cn_fok, fld_nodes hF1 S, dN, S.a, at_n e, dT]
      have hsub : ∀ g : Hs, ev (cn T (N + 1 + 1)) (.var 0) [some (.ref s), some (dN (j + 2)), some (.ref m), some (dN p), some (dN w), some (dN i)] g = some (.ref s, g) := fun g => rfl
      have a1 : ev (cn T (N + 1 + 1)) (.mcl 0 "negated" fg (.var 0) (.cons (.var 4) (.cons (.var 2) .nil))) [some (.ref s), some (dN (j + 2)), some (.ref m), some (dN p), some (dN w), some (dN i)] h = some (dN r1, nh h a b m ns1 memo1) :=
        (ev_mcl (hsub h) (ins_no S (by decide +kernel)) (evA_cons (d := dN w) (h1 := h) rfl (evA_one (d := .ref m) (h1 := h) rfl))).trans c1
      have a2 : ev (cn T (N + 1 + 1)) (.mcl 0 "negated" fg (.var 0) (.cons (.var 5) (.cons (.var 2) .nil))) [some (.ref s), some (dN (j + 2)), some (.ref m), some (dN p), some (dN w), some (dN i)] (nh h a b m ns1 memo1) = some (dN r2, nh h a b m ns2 memo2) :=
        (ev_mcl (hsub _) (ins_no S1 (by decide +kernel)) (evA_cons (d := dN i) (h1 := nh h a b m ns1 memo1) rfl (evA_one (d := .ref m) (h1 := nh h a b m ns1 memo1) rfl))).trans c2
      have a3 : ev (cn T (N + 1 + 1)) (.mcl 0 "make" fm (.var 0) (.cons (.var 3) (.cons (.mcl 0 "negated" fg (.var 0) (.cons (.var 4) (.cons (.var 2) .nil))) (.cons (.mcl 0 "negated" fg (.var 0) (.cons (.var 5) (.cons (.var 2) .nil))) .nil))))
          [some (.ref s), some (dN (j + 2)), some (.ref m), some (dN p), some (dN w), some (dN i)] h = some (dN q.1, nh h a b m q.2 memo2) :=
        (ev_mcl (hsub h) (ins_no S (by decide +kernel)) (evA_cons (d := dN p) (h1 := h) rfl (evA_cons a1 (evA_one a2)))).trans c3
      have t2 : exS (cn T (N + 1 + 1)) (.sub (.var 2) (.var 1) (.mcl 0 "make" fm (.var 0) (.cons (.var 3) (.cons (.mcl 0 "negated" fg (.var 0) (.cons (.var 4) (.cons (.var 2) .nil))) (.cons (.mcl 0 "negated" fg (.var 0) (.cons (.var 5) (.cons (.var 2) .nil))) .nil)))))
          [some (.ref s), some (dN (j + 2)), some (.ref m), some (dN p), some (dN w), some (dN i)] h = some (.nx, [some (.ref s), some (dN (j + 2)), some (.ref m), some (dN p), some (dN w), some (dN i)], nh h a b m q.2 (putM memo2 (j + 2) q.1)) := by
        have es : setD (nh h a b m q.2 memo2) (.ref m) (dN (j + 2)) (dN q.1) = some (nh h a b m q.2 (putM memo2 (j + 2) q.1)) := by
          simp only [setD, nh_m hml, dput_nh hml (show memo2.length ≤ 100000 by omega)]
        show ((ev (cn T (N + 1 + 1)) _ _ h).bind fun p => _) = _
        rw [a3]
        simp only [exS, ev, evA, evO, evT, evC, evI_seq, evF_disp, evF_lst, evF_slk, evF_cat, cn_cf, startD, bltD, lenD, Cr.intD, tupleD, sumD, anyD, allD, absD, minD, maxD, gcdD, binD, cmpD, truD, idxD, isiD, mthD, isN, List.map_cons, List.map_nil, List.length_cons, List.length_nil, Option.bind_some, Option.map_some, List.set_cons_zero, List.set_cons_succ, List.getElem?_cons_zero, List.getElem?_cons_succ, List.replicate, List.cons_append, List.nil_append, List.append_nil, Nat.zero_add, Nat.add_one_sub_one, Nat.sub_self, putT, putS, if_true, and_self, sz0, sz1, sz2, sz3, sz5, sz6, wipeD, Nat.reduceAdd, Nat.reduceSub, es]
      rw [Bneg, exB_cons ((exS_ifF et0).trans exB_nil), exB_cons ((exS_ifT et1).trans ((exB_cons t1).trans ((exB_cons t2).trans exB_nil)))]
      exact exB_rt (exS_ret (ev_idx rfl rfl (idx_m (nh_m hml) hget)))
end
end Cr
/-! The store 6: a memo by any keys. -/
namespace Cr
open PySem PySem.Spec PyProof.Rows L2
section
variable {α κ : Type} [DecidableEq α] [DecidableEq κ] {key : α → κ}
def mG (key : α → κ) (memo : List (α × Nat)) : List (κ × D) := memo.map fun p => (key p.1, dN p.2)
def gG (memo : List (α × Nat)) (k : α) : Option Nat := (memo.find? fun p => decide (p.1 = k)).map (·.2)
def pG (memo : List (α × Nat)) (k : α) (r : Nat) : List (α × Nat) :=
  if (memo.any fun p => decide (p.1 = k)) = true then memo.map (fun p => if p.1 = k then (p.1, r) else p) else memo ++ [(k, r)]
theorem mG_val (hk : ∀ x y, key x = key y → x = y) {k : α} : ∀ memo : List (α × Nat), valD (mG key memo) (key k) = (gG memo k).map dN
  | [] => rfl
  | p :: memo => by
    by_cases e : p.1 = k
    · have h1 : valD (mG key (p :: memo)) (key k) = some (dN p.2) := by simp [mG, valD, List.find?_cons, e]
      have h2 : gG (p :: memo) k = some p.2 := by simp [gG, List.find?_cons, e]
      rw [h1, h2]
      rfl
    · have hne : ¬ key p.1 = key k := fun z => e (hk _ _ z)
      have h1 : valD (mG key (p :: memo)) (key k) = valD (mG key memo) (key k) := by simp [mG, valD, List.find?_cons, hne]
      have h2 : gG (p :: memo) k = gG memo k := by simp [gG, List.find?_cons, e]
      rw [h1, h2, mG_val hk memo]
theorem mG_any (hk : ∀ x y, key x = key y → x = y) {k : α} : ∀ memo : List (α × Nat), ((mG key memo).any fun kv => decide (kv.1 = key k)) = (memo.any fun p => decide (p.1 = k))
  | [] => rfl
  | p :: memo => by
    show (decide (key p.1 = key k) || (mG key memo).any fun kv => decide (kv.1 = key k)) = (decide (p.1 = k) || memo.any fun p => decide (p.1 = k))
    rw [mG_any hk memo]
    congr 1
    exact decide_eq_decide.mpr ⟨hk _ _, fun z => by rw [z]⟩
theorem mG_put (hk : ∀ x y, key x = key y → x = y) {k : α} {r : Nat} (memo : List (α × Nat)) : putD (mG key memo) (key k) (dN r) = mG key (pG memo k r) := by
  unfold putD pG
  rw [mG_any hk]
  split
  · unfold mG
    rw [List.map_map, List.map_map]
    refine List.map_congr_left fun p _ => ?_
    show (if key p.1 = key k then (key p.1, dN r) else (key p.1, dN p.2)) = (key (if p.1 = k then (p.1, r) else p).1, dN (if p.1 = k then (p.1, r) else p).2)
    by_cases e : p.1 = k
    · rw [if_pos (by rw [e]), if_pos e]
    · rw [if_neg (fun z => e (hk _ _ z)), if_neg e]
  · unfold mG
    rw [List.map_append]
    rfl
theorem gG_mapped {k : α} {r : Nat} : ∀ (memo : List (α × Nat)) (j : α), gG (memo.map fun p => if p.1 = k then (p.1, r) else p) j = if j = k then (if (memo.any fun p => decide (p.1 = k)) = true then some r else none) else gG memo j
  | [], j => by
    show none = _
    split <;> rfl
  | p :: memo, j => by
    have ih := gG_mapped (k := k) (r := r) memo j
    by_cases e : p.1 = k
    · by_cases ej : j = k
      · subst ej
        simp [gG, List.find?_cons, e]
      · have h1 : ¬ p.1 = j := fun z => ej (by rw [← z, e])
        have h2 : gG (p :: memo) j = gG memo j := by simp [gG, List.find?_cons, h1]
        have h3 : gG ((p :: memo).map fun p => if p.1 = k then (p.1, r) else p) j = gG (memo.map fun p => if p.1 = k then (p.1, r) else p) j := by
          rw [List.map_cons, if_pos e]
          simp [gG, List.find?_cons, h1]
        rw [h3, ih, if_neg ej, if_neg ej, h2]
    · by_cases ej : p.1 = j
      · have hjk : ¬ j = k := fun z => e (by rw [ej, z])
        rw [if_neg hjk, List.map_cons, if_neg e]
        have hd : decide (p.1 = j) = true := decide_eq_true ej
        unfold gG
        rw [List.find?_cons, List.find?_cons, hd]
      · have h2 : gG (p :: memo) j = gG memo j := by simp [gG, List.find?_cons, ej]
        have h3 : gG ((p :: memo).map fun p => if p.1 = k then (p.1, r) else p) j = gG (memo.map fun p => if p.1 = k then (p.1, r) else p) j := by
          rw [List.map_cons, if_neg e]
          simp [gG, List.find?_cons, ej]
        have h4 : ((p :: memo).any fun p => decide (p.1 = k)) = (memo.any fun p => decide (p.1 = k)) := by simp [e]
        rw [h3, ih, h2, h4]
theorem gG_put {k : α} {r : Nat} (memo : List (α × Nat)) (j : α) : gG (pG memo k r) j = if j = k then some r else gG memo j := by
  unfold pG
  by_cases ha : (memo.any fun p => decide (p.1 = k)) = true
  · rw [if_pos ha, gG_mapped, if_pos ha]
  · rw [if_neg ha]
    have hnone : gG memo k = none := by
      unfold gG
      have : (memo.find? fun p => decide (p.1 = k)) = none := by
        rw [List.find?_eq_none]
        intro p hp hd
        exact ha (List.any_eq_true.mpr ⟨p, hp, hd⟩)
      rw [this]
      rfl
    by_cases ej : j = k
    · subst ej
      rw [if_pos rfl]
      unfold gG at hnone ⊢
      rw [List.find?_append]
      cases hf : memo.find? fun p => decide (p.1 = j) with
      | none => simp
      | some p => rw [hf] at hnone; cases hnone
    · rw [if_neg ej]
      unfold gG
      rw [List.find?_append]
      have : ¬ k = j := fun z => ej z.symm
      cases hf : memo.find? fun p => decide (p.1 = j) with
      | none => simp [this]
      | some p => rfl
theorem pG_len (memo : List (α × Nat)) (k : α) (r : Nat) : (pG memo k r).length ≤ memo.length + 1 := by
  unfold pG
  split
  · rw [List.length_map]; omega
  · rw [List.length_append, List.length_singleton]; exact Nat.le_refl _
theorem mG_len (memo : List (α × Nat)) : (mG key memo).length = memo.length := by unfold mG; rw [List.length_map]
theorem mG_pure : ∀ memo : List (α × Nat), pureDs ((mG key memo).map (·.2)) = true
  | [] => rfl
  | _ :: memo => mG_pure memo
end
end Cr
/-! The store 7: joined. -/
namespace Cr
open PySem PySem.Spec PyProof.Rows L2
/-! ### the heap with other nodes and another thing -/
def oh (h : Hs) (a b m : Nat) (ns : List Nd) (o : O) : Hs := (sth h a b ns).set m o
theorem oh_closed {h : Hs} {a b m : Nat} {ns : List Nd} {o : O} {k : Nat} (ho : clsdO k o = true) : ∀ (n : Nat) (u : O), (oh h a b m ns o)[n]? = some u → h[n]? = some u ∨ clsdO k u = true := by
  intro n u e
  unfold oh at e
  by_cases hm : m = n
  · subst hm
    have hl := (List.getElem?_eq_some_iff.mp e).1
    rw [List.length_set] at hl
    rw [List.getElem?_set_self hl] at e
    cases e
    exact .inr ho
  · rw [List.getElem?_set_ne hm] at e
    exact sth_closed n u e
theorem oh_len {h : Hs} {a b m : Nat} {ns : List Nd} {o : O} : (oh h a b m ns o).length = h.length := by unfold oh; rw [List.length_set, sth_len]
theorem SAt.oh {h : Hs} {s a b m : Nat} {ns : List Nd} (S : SAt h s a b ns) (h1 : m ≠ s) (h2 : m ≠ a) (h3 : m ≠ b) (ns' : List Nd) (o : O) : SAt (oh h a b m ns' o) s a b ns' := (S.to ns').upd h1 h2 h3
theorem oh_m {h : Hs} {a b m : Nat} {ns : List Nd} {o : O} (hm : m < h.length) : (oh h a b m ns o)[m]? = some o := by
  unfold Cr.oh
  rw [List.getElem?_set_self (by rw [sth_len]; exact hm)]
theorem oh_oh {h : Hs} {a b m : Nat} {ns ns' : List Nd} {o o' : O} (hn : a ≠ b) (h2 : m ≠ a) (h3 : m ≠ b) : oh (oh h a b m ns o) a b m ns' o' = oh h a b m ns' o' := by
  unfold Cr.oh
  rw [sth_set h2 h3, sth_sth hn, List.set_set]
theorem sth_oh {h : Hs} {a b m : Nat} {ns ns' : List Nd} {o : O} (hn : a ≠ b) (h2 : m ≠ a) (h3 : m ≠ b) : sth (oh h a b m ns o) a b ns' = oh h a b m ns' o := by
  unfold Cr.oh
  rw [sth_set h2 h3, sth_sth hn]
theorem oh_same {h : Hs} {s a b m : Nat} {ns : List Nd} {o : O} (S : SAt h s a b ns) (hm : h[m]? = some o) : oh h a b m ns o = h := by
  unfold Cr.oh
  rw [S.same, set_id hm]
/-! ### pairs as keys -/
def keyP (x : Nat × Nat) : List L2.Key := [.inl (x.1 : Int), .inl (x.2 : Int)]
theorem keyP_inj (x y : Nat × Nat) (h : keyP x = keyP y) : x = y := by
  obtain ⟨a, b⟩ := x
  obtain ⟨c, d⟩ := y
  simp only [keyP, List.cons.injEq, Sum.inl.injEq, and_true] at h
  have e1 : a = c := by omega
  have e2 : b = d := by omega
  rw [e1, e2]
abbrev Mem2 := List ((Nat × Nat) × Nat)
def jO (memo : Mem2) : O := .dT (mG keyP memo)
theorem jO_closed {k : Nat} {memo : Mem2} : clsdO k (jO memo) = true := clsds_pure (mG_pure memo)
theorem jget {h : Hs} {m : Nat} {memo : Mem2} {x : Nat × Nat} (hm : h[m]? = some (jO memo)) : dgetD h m (dP x) = some ((gG memo x).map dN) := by
  have e : keysD [dN x.1, dN x.2] = some (keyP x) := rfl
  have hm : h[m]? = some (.dT (mG keyP memo)) := hm
  simp only [dgetD, hm, dP, e, Option.map_some, mG_val keyP_inj]
theorem jin {h : Hs} {m : Nat} {memo : Mem2} {x : Nat × Nat} (hm : h[m]? = some (jO memo)) : inD h (dP x) (.ref m) = some (gG memo x).isSome := by
  have hm' : h[m]? = some (.dT (mG keyP memo)) := hm
  simp only [inD, hm', jget hm, Option.map_some, Option.isSome_map]
theorem jidx {h : Hs} {m r : Nat} {memo : Mem2} {x : Nat × Nat} (hm : h[m]? = some (jO memo)) (e : gG memo x = some r) : idxD h (.ref m) (dP x) = some (dN r) := by
  have hm' : h[m]? = some (.dT (mG keyP memo)) := hm
  simp only [idxD, hm', jget hm, e, Option.map_some, Option.bind_some, id]
theorem jput {h : Hs} {a b m : Nat} {ns : List Nd} {memo : Mem2} (hm : m < h.length) (hl : memo.length ≤ 100000) (x : Nat × Nat) (r : Nat) : setD (oh h a b m ns (jO memo)) (.ref m) (dP x) (dN r) = some (oh h a b m ns (jO (pG memo x r))) := by
  have hz : (mG keyP memo).length < sizeLine := by rw [mG_len]; have := sz_le (show memo.length + 1 ≤ 1000000 by omega); omega
  have e : keysD [dN x.1, dN x.2] = some (keyP x) := rfl
  have hm' : (oh h a b m ns (jO memo))[m]? = some (.dT (mG keyP memo)) := oh_m hm
  simp only [setD, dputD, hm', dP, e, Option.bind_some, if_pos hz, mG_put keyP_inj]
  unfold Cr.oh
  rw [List.set_set]
  rfl
/-- the memo of the joined -/
structure JOk (M : Nat) (ns : List Nd) (memo : Mem2) : Prop where
  ok : ∀ x r, gG memo x = some r → x.1 < ns.length + 2 ∧ x.2 < ns.length + 2 ∧ r < ns.length + 2 ∧ min (plc M ns x.1) (plc M ns x.2) ≤ plc M ns r ∧ ∀ g, sem ns g r = (sem ns g x.1 && sem ns g x.2)
theorem JOk.ext {M : Nat} {ns ns' : List Nd} {memo : Mem2} (W : Wf M ns) (e : Ext ns ns') (h : JOk M ns memo) : JOk M ns' memo :=
  ⟨fun x r hk => by
    obtain ⟨h1, h2, h3, h4, h5⟩ := h.ok x r hk
    have := e.len
    exact ⟨by omega, by omega, by omega, by rw [e.plc h1, e.plc h2, e.plc h3]; exact h4, fun g => by rw [e.sem W h1, e.sem W h2, e.sem W h3]; exact h5 g⟩⟩
end Cr
/-! The store 8: joined. -/
namespace Cr
open PySem PySem.Spec PyProof.Rows L2
/-- a side of a node, or of an end -/
def sidN (ns : List Nd) (v : Nat) (yes : Bool) : Nat → Nat
  | x + 2 => match ns[x]? with
    | some r => sideP x r v yes
    | none => x + 2
  | x => x
theorem sid_ok {M : Nat} {ns : List Nd} (W : Wf M ns) {v k : Nat} (hk : k < ns.length + 2) (hv : v ≤ plc M ns k) (hvM : v < M) : (∀ yes, sidN ns v yes k < ns.length + 2 ∧ v < plc M ns (sidN ns v yes k) ∧ (2 ≤ k → sidN ns v yes k ≤ k)) ∧ ∀ g, sem ns g k = if g v then sem ns g (sidN ns v true k) else sem ns g (sidN ns v false k) := by
  match k, hk, hv with
  | 0, hk, hv => exact ⟨fun yes => ⟨hk, hvM, fun z => by omega⟩, fun g => by show sem ns g 0 = _; split <;> rfl⟩
  | 1, hk, hv => exact ⟨fun yes => ⟨hk, hvM, fun z => by omega⟩, fun g => by show sem ns g 1 = _; split <;> rfl⟩
  | x + 2, hk, hv =>
    obtain ⟨⟨p, w, i⟩, e⟩ : ∃ r, ns[x]? = some r := ⟨_, List.getElem?_eq_getElem (by omega)⟩
    obtain ⟨k1, k2, k3, k4, k5⟩ := W.ok x p w i e
    have hpl : plc M ns (x + 2) = p := by rw [plc_at, e]
    rw [hpl] at hv
    have es : ∀ yes, sidN ns v yes (x + 2) = if p = v then (if yes then i else w) else x + 2 := fun yes => by
      show (match ns[x]? with | some r => sideP x r v yes | none => x + 2) = _
      rw [e]
      rfl
    by_cases hpv : p = v
    · subst hpv
      refine ⟨fun yes => ?_, fun g => ?_⟩
      · rw [es, if_pos rfl]
        cases yes with
        | true => exact ⟨by show i < _; omega, k5, fun _ => by show i ≤ _; omega⟩
        | false => exact ⟨by show w < _; omega, k4, fun _ => by show w ≤ _; omega⟩
      · have e1 : sidN ns p true (x + 2) = i := by rw [es, if_pos rfl]; rfl
        have e2 : sidN ns p false (x + 2) = w := by rw [es, if_pos rfl]; rfl
        rw [e1, e2, sem_node W e]
    · refine ⟨fun yes => ?_, fun g => ?_⟩
      · rw [es, if_neg hpv]
        exact ⟨hk, by rw [hpl]; omega, fun _ => Nat.le_refl _⟩
      · rw [es, es, if_neg hpv, if_neg hpv]
        split <;> rfl
section
variable {T : Tb} {n : Nat} {h : Hs} {s a b : Nat} {ns : List Nd}
theorem sid_call {f : Nat} (H : Has T f Bside 4 4 true) (hF : T.fok 0 "nodes" = true) (S : SAt h s a b ns) {k v : Nat} (hk : k < ns.length + 2) (yes : Bool) : call T (n + 1) f [.ref s, dN k, dN v, .bl yes] h = some (dN (sidN ns v yes k), h) := by
  match k, hk with
  | 0, _ => exact side_low H (by decide) yes
  | 1, _ => exact side_low H (by decide) yes
  | x + 2, hk =>
    obtain ⟨r, e⟩ : ∃ r, ns[x]? = some r := ⟨_, List.getElem?_eq_getElem (by omega)⟩
    have es : sidN ns v yes (x + 2) = sideP x r v yes := by
      show (match ns[x]? with | some r => sideP x r v yes | none => x + 2) = _
      rw [e]
    rw [es]
    exact side_ok H hF S e yes
end
end Cr
/-! The store 9: joined. -/
namespace Cr
open PySem PySem.Spec PyProof.Rows L2
def Jrec (ft fs fj fm : Nat) : CB := (.cons (.set 5 (.mcl 0 "top" ft (.var 0) (.cons (.var 1) (.cons (.var 2) .nil)))) (.cons (.set 6 (.mcl 0 "joined" fj (.var 0) (.cons (.mcl 0 "side" fs (.var 0) (.cons (.var 1) (.cons (.var 5) (.cons (.cst (.bl false)) .nil)))) (.cons (.mcl 0 "side" fs (.var 0) (.cons (.var 2) (.cons (.var 5) (.cons (.cst (.bl false)) .nil)))) (.cons (.var 3) .nil))))) (.cons (.set 7 (.mcl 0 "joined" fj (.var 0) (.cons (.mcl 0 "side" fs (.var 0) (.cons (.var 1) (.cons (.var 5) (.cons (.cst (.bl true)) .nil)))) (.cons (.mcl 0 "side" fs (.var 0) (.cons (.var 2) (.cons (.var 5) (.cons (.cst (.bl true)) .nil)))) (.cons (.var 3) .nil))))) (.cons (.sub (.var 3) (.var 4) (.mcl 0 "make" fm (.var 0) (.cons (.var 5) (.cons (.var 6) (.cons (.var 7) .nil))))) .nil))))
def Bjoin (ft fs fj fm : Nat) : CB := (.cons (.ife (.or (.cmp .Eq (.var 1) (.cst (.int 0))) (.cmp .Eq (.var 2) (.cst (.int 0)))) (.cons (.ret (.cst (.int 0))) .nil) .nil) (.cons (.ife (.or (.cmp .Eq (.var 1) (.cst (.int 1))) (.cmp .Eq (.var 1) (.var 2))) (.cons (.ret (.var 2)) .nil) .nil) (.cons (.ife (.cmp .Eq (.var 2) (.cst (.int 1))) (.cons (.ret (.var 1)) .nil) .nil) (.cons (.set 4 (.tup (.cons (.blt .min (.cons (.var 1) (.cons (.var 2) .nil))) (.cons (.blt .max (.cons (.var 1) (.cons (.var 2) .nil))) .nil)))) (.cons (.ife (.cmp .NotIn (.var 4) (.var 3)) (Jrec ft fs fj fm) .nil) (.cons (.ret (.idx (.var 3) (.var 4))) .nil))))))
def JoinR (T : Tb) (fj M : Nat) (h : Hs) (s a b m : Nat) (ns : List Nd) (memo : Mem2) (x y L E : Nat) : Prop :=
  ∃ ns' memo' r, call T L fj [.ref s, dN x, dN y, .ref m] h = some (dN r, oh h a b m ns' (jO memo')) ∧ Ext ns ns' ∧ Wf M ns' ∧ JOk M ns' memo' ∧ r < ns'.length + 2 ∧ min (plc M ns x) (plc M ns y) ≤ plc M ns' r ∧ (∀ g, sem ns' g r = (sem ns g x && sem ns g y)) ∧ ns'.length + 1 ≤ ns.length + E ∧ memo'.length + 1 ≤ memo.length + E
section
variable {T : Tb}
theorem nat_eq0 {k : Nat} : ((k : Int) == 0) = decide (k = 0) := nat_beq (i := k) (j := 0)
theorem nat_eq1 {k : Nat} : ((k : Int) == 1) = decide (k = 1) := nat_beq (i := k) (j := 1)
/-- the ends -/
theorem join_low {ft fs fj fm : Nat} (H : Has T fj (Bjoin ft fs fj fm) 4 8 true) {M N : Nat} {h : Hs} {s a b m : Nat} {ns : List Nd} {memo : Mem2} {x y E : Nat} (S : SAt h s a b ns) (hm : h[m]? = some (jO memo)) (W : Wf M ns) (JO : JOk M ns memo) (hx : x < ns.length + 2) (hy : y < ns.length + 2) (hE : 1 ≤ E)
    (hc : x = 0 ∨ y = 0 ∨ x = 1 ∨ x = y ∨ y = 1) : JoinR T fj M h s a b m ns memo x y (N + 1) E := by
  have e1 : evT (cn T N) (.or (.cmp .Eq (.var 1) (.cst (.int 0))) (.cmp .Eq (.var 2) (.cst (.int 0)))) [some (.ref s), some (dN x), some (dN y), some (.ref m), none, none, none, none] h = some (decide (x = 0) || decide (y = 0), h) := by
    by_cases hx0 : x = 0
    · simp only [exS, ev, evA, evO, evT, evC, evI_seq, evF_disp, evF_lst, evF_slk, evF_cat, cn_cf, startD, bltD, lenD, Cr.intD, tupleD, sumD, anyD, allD, absD, minD, maxD, gcdD, binD, cmpD, truD, idxD, isiD, mthD, isN, List.map_cons, List.map_nil, List.length_cons, List.length_nil, Option.bind_some, Option.map_some, List.set_cons_zero, List.set_cons_succ, List.getElem?_cons_zero, List.getElem?_cons_succ, List.replicate, List.cons_append, List.nil_append, List.append_nil, Nat.zero_add, Nat.add_one_sub_one, Nat.sub_self, putT, putS, if_true, and_self, sz0, sz1, sz2, sz3, sz5, sz6, wipeD, Nat.reduceAdd, Nat.reduceSub, dN, eqD_int, nat_eq0, decide_eq_true hx0, Bool.true_or]
    · simp only [exS, ev, evA, evO, evT, evC, evI_seq, evF_disp, evF_lst, evF_slk, evF_cat, cn_cf, startD, bltD, lenD, Cr.intD, tupleD, sumD, anyD, allD, absD, minD, maxD, gcdD, binD, cmpD, truD, idxD, isiD, mthD, isN, List.map_cons, List.map_nil, List.length_cons, List.length_nil, Option.bind_some, Option.map_some, List.set_cons_zero, List.set_cons_succ, List.getElem?_cons_zero, List.getElem?_cons_succ, List.replicate, List.cons_append, List.nil_append, List.append_nil, Nat.zero_add, Nat.add_one_sub_one, Nat.sub_self, putT, putS, if_true, and_self, sz0, sz1, sz2, sz3, sz5, sz6, wipeD, Nat.reduceAdd, Nat.reduceSub, dN, eqD_int, nat_eq0, decide_eq_false hx0, Bool.false_or]
  have e2 : evT (cn T N) (.or (.cmp .Eq (.var 1) (.cst (.int 1))) (.cmp .Eq (.var 1) (.var 2))) [some (.ref s), some (dN x), some (dN y), some (.ref m), none, none, none, none] h = some (decide (x = 1) || decide (x = y), h) := by
    by_cases hx0 : x = 1
    · simp only [exS, ev, evA, evO, evT, evC, evI_seq, evF_disp, evF_lst, evF_slk, evF_cat, cn_cf, startD, bltD, lenD, Cr.intD, tupleD, sumD, anyD, allD, absD, minD, maxD, gcdD, binD, cmpD, truD, idxD, isiD, mthD, isN, List.map_cons, List.map_nil, List.length_cons, List.length_nil, Option.bind_some, Option.map_some, List.set_cons_zero, List.set_cons_succ, List.getElem?_cons_zero, List.getElem?_cons_succ, List.replicate, List.cons_append, List.nil_append, List.append_nil, Nat.zero_add, Nat.add_one_sub_one, Nat.sub_self, putT, putS, if_true, and_self, sz0, sz1, sz2, sz3, sz5, sz6, wipeD, Nat.reduceAdd, Nat.reduceSub, dN, eqD_int, nat_eq1, decide_eq_true hx0, Bool.true_or]
    · simp only [exS, ev, evA, evO, evT, evC, evI_seq, evF_disp, evF_lst, evF_slk, evF_cat, cn_cf, startD, bltD, lenD, Cr.intD, tupleD, sumD, anyD, allD, absD, minD, maxD, gcdD, binD, cmpD, truD, idxD, isiD, mthD, isN, List.map_cons, List.map_nil, List.length_cons, List.length_nil, Option.bind_some, Option.map_some, List.set_cons_zero, List.set_cons_succ, List.getElem?_cons_zero, List.getElem?_cons_succ, List.replicate, List.cons_append, List.nil_append, List.append_nil, Nat.zero_add, Nat.add_one_sub_one, Nat.sub_self, putT, putS, if_true, and_self, sz0, sz1, sz2, sz3, sz5, sz6, wipeD, Nat.reduceAdd, Nat.reduceSub, dN, eqD_int, nat_eq1, decide_eq_false hx0, Bool.false_or, nat_beq]
  have e3 : evT (cn T N) (.cmp .Eq (.var 2) (.cst (.int 1))) [some (.ref s), some (dN x), some (dN y), some (.ref m), none, none, none, none] h = some (decide (y = 1), h) := by
    simp only [exS, ev, evA, evO, evT, evC, evI_seq, evF_disp, evF_lst, evF_slk, evF_cat, cn_cf, startD, bltD, lenD, Cr.intD, tupleD, sumD, anyD, allD, absD, minD, maxD, gcdD, binD, cmpD, truD, idxD, isiD, mthD, isN, List.map_cons, List.map_nil, List.length_cons, List.length_nil, Option.bind_some, Option.map_some, List.set_cons_zero, List.set_cons_succ, List.getElem?_cons_zero, List.getElem?_cons_succ, List.replicate, List.cons_append, List.nil_append, List.append_nil, Nat.zero_add, Nat.add_one_sub_one, Nat.sub_self, putT, putS, if_true, and_self, sz0, sz1, sz2, sz3, sz5, sz6, wipeD, Nat.reduceAdd, Nat.reduceSub, dN, eqD_int, nat_eq1]
  have fin : ∀ r, exB (cn T N) (Bjoin ft fs fj fm) [some (.ref s), some (dN x), some (dN y), some (.ref m), none, none, none, none] h = some (.rt (dN r), [some (.ref s), some (dN x), some (dN y), some (.ref m), none, none, none, none], h) → r < ns.length + 2 → min (plc M ns x) (plc M ns y) ≤ plc M ns r → (∀ g, sem ns g r = (sem ns g x && sem ns g y)) → JoinR T fj M h s a b m ns memo x y (N + 1) E := fun r he hr hp hs =>
    ⟨ns, memo, r, by rw [oh_same S hm]; exact H.rt rfl ⟨_, he⟩ (leave_same rfl), Ext.refl _, W, JO, hr, hp, hs, by omega, by omega⟩
  have p0 : plc M ns 0 = M := rfl
  have p1 : plc M ns 1 = M := rfl
  have ple : ∀ k, k < ns.length + 2 → plc M ns k ≤ M := fun k hk => by
    match k, hk with
    | 0, _ => exact Nat.le_refl _
    | 1, _ => exact Nat.le_refl _
    | j + 2, hk =>
      obtain ⟨⟨p, w, i⟩, e⟩ : ∃ r, ns[j]? = some r := ⟨_, List.getElem?_eq_getElem (by omega)⟩
      rw [plc_at, e]
      exact Nat.le_of_lt (W.ok j p w i e).1
  have px := ple x hx
  have py := ple y hy
  by_cases h0 : x = 0 ∨ y = 0
  · have eb : (decide (x = 0) || decide (y = 0)) = true := by rcases h0 with z | z <;> simp [z]
    rw [eb] at e1
    refine fin 0 (exB_rt ((exS_ifT e1).trans rfl)) (by omega) (by rw [p0]; omega) fun g => ?_
    rcases h0 with rfl | rfl
    · rfl
    · show false = (sem ns g x && false)
      rw [Bool.and_false]
  · have eb : (decide (x = 0) || decide (y = 0)) = false := by simp only [not_or] at h0; simp [h0.1, h0.2]
    rw [eb] at e1
    by_cases h1 : x = 1 ∨ x = y
    · have ec : (decide (x = 1) || decide (x = y)) = true := by rcases h1 with z | z <;> simp [z]
      rw [ec] at e2
      refine fin y ?_ hy (Nat.min_le_right _ _) fun g => ?_
      · rw [Bjoin, exB_cons ((exS_ifF e1).trans exB_nil)]
        exact exB_rt ((exS_ifT e2).trans rfl)
      · rcases h1 with rfl | rfl
        · rfl
        · rw [Bool.and_self]
    · have ec : (decide (x = 1) || decide (x = y)) = false := by simp only [not_or] at h1; simp [h1.1, h1.2]
      rw [ec] at e2
      have hy1 : y = 1 := by
        simp only [not_or] at h0 h1
        rcases hc with z | z | z | z | z
        · exact absurd z h0.1
        · exact absurd z h0.2
        · exact absurd z h1.1
        · exact absurd z h1.2
        · exact z
      rw [decide_eq_true hy1] at e3
      refine fin x ?_ hx (Nat.min_le_left _ _) fun g => ?_
      · rw [Bjoin, exB_cons ((exS_ifF e1).trans exB_nil), exB_cons ((exS_ifF e2).trans exB_nil)]
        exact exB_rt ((exS_ifT e3).trans rfl)
      · subst hy1
        show _ = (sem ns g x && true)
        rw [Bool.and_true]
end
end Cr
/-! The store 10: joined, the whole. -/
namespace Cr
open PySem PySem.Spec PyProof.Rows L2
section
variable {T : Tb}
theorem ev_tup {c : Cn} {se : S} {h h1 : Hs} {es : CA} {ds : List D} (e : evA c es se h = some (ds, h1)) (hl : ds.length ≤ sizeLine) : ev c (.tup es) se h = some (.tup ds, h1) := by
  show ((evA c es se h).bind fun p => if p.1.length ≤ sizeLine then some (D.tup p.1, p.2) else none) = _
  rw [e]
  show (if ds.length ≤ sizeLine then some (D.tup ds, h1) else none) = _
  rw [if_pos hl]
theorem joined_ok {ft fs fj fm : Nat} (H : Has T fj (Bjoin ft fs fj fm) 4 8 true) (Ht : Has T ft Btop 3 3 true) (Hs' : Has T fs Bside 4 4 true) (Hm : Has T fm Bmake 4 5 true) (hF1 : T.fok 0 "nodes" = true) (hF2 : T.fok 0 "places" = true) {M : Nat} :
    ∀ (d : Nat) {N : Nat} {h : Hs} {s a b m : Nat} {ns : List Nd} {memo : Mem2} {x y : Nat},
    d ≤ N → SAt h s a b ns → h[m]? = some (jO memo) → m ≠ s → m ≠ a → m ≠ b → Wf M ns → JOk M ns memo → x < ns.length + 2 → y < ns.length + 2 → M ≤ min (plc M ns x) (plc M ns y) + d → ns.length + 2 ^ d ≤ 50000 → memo.length + 2 ^ d ≤ 50000 → JoinR T fj M h s a b m ns memo x y (N + 2) (2 ^ d) := by
  intro d
  induction d with
  | zero =>
    intro N h s a b m ns memo x y hN S hm m1 m2 m3 W JO hx hy hp hs1 hs2
    refine join_low H S hm W JO hx hy (Nat.le_refl _) ?_
    have low : ∀ k, k < ns.length + 2 → M ≤ plc M ns k → k < 2 := fun k hk hp => by
      match k, hk, hp with
      | 0, _, _ => omega
      | 1, _, _ => omega
      | j + 2, hk, hp =>
        exfalso
        obtain ⟨⟨p, w, i⟩, e⟩ : ∃ r, ns[j]? = some r := ⟨_, List.getElem?_eq_getElem (by omega)⟩
        have := (W.ok j p w i e).1
        rw [plc_at, e] at hp
        have hp : M ≤ p := hp
        omega
    have := low x hx (by omega)
    omega
  | succ d ih =>
    intro N h s a b m ns memo x y hN S hm m1 m2 m3 W JO hx hy hp hs1 hs2
    have hpos := Nat.two_pow_pos d
    rw [Nat.pow_succ] at hs1 hs2 ⊢
    by_cases hc : x = 0 ∨ y = 0 ∨ x = 1 ∨ x = y ∨ y = 1
    · exact join_low H S hm W JO hx hy (by omega) hc
    simp only [not_or] at hc
    obtain ⟨h0, h1, h2, h3, h4⟩ := hc
    obtain ⟨j, rfl⟩ : ∃ j, x = j + 2 := ⟨x - 2, by omega⟩
    obtain ⟨l, rfl⟩ : ∃ l, y = l + 2 := ⟨y - 2, by omega⟩
    obtain ⟨⟨p, xw, xi⟩, ex⟩ : ∃ r, ns[j]? = some r := ⟨_, List.getElem?_eq_getElem (by omega)⟩
    obtain ⟨⟨q, yw, yi⟩, ey⟩ : ∃ r, ns[l]? = some r := ⟨_, List.getElem?_eq_getElem (by omega)⟩
    have hpx : plc M ns (j + 2) = p := by rw [plc_at, ex]
    have hpy : plc M ns (l + 2) = q := by rw [plc_at, ey]
    have pM := (W.ok j p xw xi ex).1
    have qM := (W.ok l q yw yi ey).1
    rw [hpx, hpy] at hp
    have hml := (List.getElem?_eq_some_iff.mp hm).1
    obtain ⟨n1, n2, n3⟩ := S.ne
    let key : Nat × Nat := (min (j + 2) (l + 2), max (j + 2) (l + 2))
    have e1 : evT (cn T (N + 1)) (.or (.cmp .Eq (.var 1) (.cst (.int 0))) (.cmp .Eq (.var 2) (.cst (.int 0)))) [some (.ref s), some (dN (j + 2)), some (dN (l + 2)), some (.ref m), none, none, none, none] h = some (false, h) := by
      simp only [exS, ev, evA, evO, evT, evC, evI_seq, evF_disp, evF_lst, evF_slk, evF_cat, cn_cf, startD, bltD, lenD, Cr.intD, tupleD, sumD, anyD, allD, absD, minD, maxD, gcdD, binD, cmpD, truD, idxD, isiD, mthD, isN, List.map_cons, List.map_nil, List.length_cons, List.length_nil, Option.bind_some, Option.map_some, List.set_cons_zero, List.set_cons_succ, List.getElem?_cons_zero, List.getElem?_cons_succ, List.replicate, List.cons_append, List.nil_append, List.append_nil, Nat.zero_add, Nat.add_one_sub_one, Nat.sub_self, putT, putS, if_true, and_self, sz0, sz1, sz2, sz3, sz5, sz6, wipeD, Nat.reduceAdd, Nat.reduceSub, dN, eqD_int, nat_eq0, decide_eq_false h0, decide_eq_false h1]
    have e2 : evT (cn T (N + 1)) (.or (.cmp .Eq (.var 1) (.cst (.int 1))) (.cmp .Eq (.var 1) (.var 2))) [some (.ref s), some (dN (j + 2)), some (dN (l + 2)), some (.ref m), none, none, none, none] h = some (false, h) := by
      simp only [exS, ev, evA, evO, evT, evC, evI_seq, evF_disp, evF_lst, evF_slk, evF_cat, cn_cf, startD, bltD, lenD, Cr.intD, tupleD, sumD, anyD, allD, absD, minD, maxD, gcdD, binD, cmpD, truD, idxD, isiD, mthD, isN, List.map_cons, List.map_nil, List.length_cons, List.length_nil, Option.bind_some, Option.map_some, List.set_cons_zero, List.set_cons_succ, List.getElem?_cons_zero, List.getElem?_cons_succ, List.replicate, List.cons_append, List.nil_append, List.append_nil, Nat.zero_add, Nat.add_one_sub_one, Nat.sub_self, putT, putS, if_true, and_self, sz0, sz1, sz2, sz3, sz5, sz6, wipeD, Nat.reduceAdd, Nat.reduceSub, dN, eqD_int, nat_eq1, nat_beq, decide_eq_false h2, decide_eq_false h3]
    have e3 : evT (cn T (N + 1)) (.cmp .Eq (.var 2) (.cst (.int 1))) [some (.ref s), some (dN (j + 2)), some (dN (l + 2)), some (.ref m), none, none, none, none] h = some (false, h) := by
      simp only [exS, ev, evA, evO, evT, evC, evI_seq, evF_disp, evF_lst, evF_slk, evF_cat, cn_cf, startD, bltD, lenD, Cr.intD, tupleD, sumD, anyD, allD, absD, minD, maxD, gcdD, binD, cmpD, truD, idxD, isiD, mthD, isN, List.map_cons, List.map_nil, List.length_cons, List.length_nil, Option.bind_some, Option.map_some, List.set_cons_zero, List.set_cons_succ, List.getElem?_cons_zero, List.getElem?_cons_succ, List.replicate, List.cons_append, List.nil_append, List.append_nil, Nat.zero_add, Nat.add_one_sub_one, Nat.sub_self, putT, putS, if_true, and_self, sz0, sz1, sz2, sz3, sz5, sz6, wipeD, Nat.reduceAdd, Nat.reduceSub, dN, eqD_int, nat_eq1, decide_eq_false h4]
    have emin : D.int (if ((l + 2 : Nat) : Int) < ((j + 2 : Nat) : Int) then ((l + 2 : Nat) : Int) else ((j + 2 : Nat) : Int)) = dN (min (j + 2) (l + 2)) := by
      unfold dN
      by_cases hh : l + 2 < j + 2
      · rw [if_pos (by omega), Nat.min_eq_right (by omega)]
      · rw [if_neg (by omega), Nat.min_eq_left (by omega)]
    have emax : D.int (if ((l + 2 : Nat) : Int) > ((j + 2 : Nat) : Int) then ((l + 2 : Nat) : Int) else ((j + 2 : Nat) : Int)) = dN (max (j + 2) (l + 2)) := by
      unfold dN
      by_cases hh : l + 2 > j + 2
      · rw [if_pos (by omega), Nat.max_eq_right (by omega)]
      · rw [if_neg (by omega), Nat.max_eq_left (by omega)]
    have e4 : exS (cn T (N + 1)) (.set 4 (.tup (.cons (.blt .min (.cons (.var 1) (.cons (.var 2) .nil))) (.cons (.blt .max (.cons (.var 1) (.cons (.var 2) .nil))) .nil)))) [some (.ref s), some (dN (j + 2)), some (dN (l + 2)), some (.ref m), none, none, none, none] h =
        some (.nx, [some (.ref s), some (dN (j + 2)), some (dN (l + 2)), some (.ref m), some (dP key), none, none, none], h) := by
      have k1 : ev (cn T (N + 1)) (.blt .min (.cons (.var 1) (.cons (.var 2) .nil))) [some (.ref s), some (dN (j + 2)), some (dN (l + 2)), some (.ref m), none, none, none, none] h = some (dN (min (j + 2) (l + 2)), h) := by
        rw [← emin]
        rfl
      have k2 : ev (cn T (N + 1)) (.blt .max (.cons (.var 1) (.cons (.var 2) .nil))) [some (.ref s), some (dN (j + 2)), some (dN (l + 2)), some (.ref m), none, none, none, none] h = some (dN (max (j + 2) (l + 2)), h) := by
        rw [← emax]
        rfl
      exact exS_set (ev_tup (evA_cons k1 (evA_one k2)) (sz_le (by simp)))
    have hkey : (key.1 = j + 2 ∧ key.2 = l + 2) ∨ (key.1 = l + 2 ∧ key.2 = j + 2) := by
      show (min (j + 2) (l + 2) = j + 2 ∧ max (j + 2) (l + 2) = l + 2) ∨ (min (j + 2) (l + 2) = l + 2 ∧ max (j + 2) (l + 2) = j + 2)
      omega
    have e5 : evT (cn T (N + 1)) (.cmp .NotIn (.var 4) (.var 3)) [some (.ref s), some (dN (j + 2)), some (dN (l + 2)), some (.ref m), some (dP key), none, none, none] h = some (!(gG memo key).isSome, h) := by
      simp only [exS, ev, evA, evO, evT, evC, evI_seq, evF_disp, evF_lst, evF_slk, evF_cat, cn_cf, startD, bltD, lenD, Cr.intD, tupleD, sumD, anyD, allD, absD, minD, maxD, gcdD, binD, cmpD, truD, idxD, isiD, mthD, isN, List.map_cons, List.map_nil, List.length_cons, List.length_nil, Option.bind_some, Option.map_some, List.set_cons_zero, List.set_cons_succ, List.getElem?_cons_zero, List.getElem?_cons_succ, List.replicate, List.cons_append, List.nil_append, List.append_nil, Nat.zero_add, Nat.add_one_sub_one, Nat.sub_self, putT, putS, if_true, and_self, sz0, sz1, sz2, sz3, sz5, sz6, wipeD, Nat.reduceAdd, Nat.reduceSub, jin hm]
    generalize key = kk at hkey e4 e5
    cases hg : gG memo kk with
    | some r =>
      rw [hg] at e5
      obtain ⟨q1, q2, q3, q4, q5⟩ := JO.ok _ _ hg
      have q6 : min (plc M ns (j + 2)) (plc M ns (l + 2)) ≤ plc M ns r := by
        rcases hkey with ⟨z1, z2⟩ | ⟨z1, z2⟩
        · rw [z1, z2] at q4; exact q4
        · rw [z1, z2] at q4; rw [Nat.min_comm]; exact q4
      have q7 : ∀ g, sem ns g r = (sem ns g (j + 2) && sem ns g (l + 2)) := fun g => by
        rw [q5 g]
        rcases hkey with ⟨z1, z2⟩ | ⟨z1, z2⟩
        · rw [z1, z2]
        · rw [z1, z2, Bool.and_comm]
      refine ⟨ns, memo, r, ?_, Ext.refl _, W, JO, q3, q6, q7, by omega, by omega⟩
      rw [oh_same S hm]
      refine H.rt rfl ⟨[some (.ref s), some (dN (j + 2)), some (dN (l + 2)), some (.ref m), some (dP kk), none, none, none], ?_⟩ (leave_same rfl)
      show exB (cn T (N + 1)) (Bjoin ft fs fj fm) [some (.ref s), some (dN (j + 2)), some (dN (l + 2)), some (.ref m), none, none, none, none] h = _
      rw [Bjoin, exB_cons ((exS_ifF e1).trans exB_nil), exB_cons ((exS_ifF e2).trans exB_nil), exB_cons ((exS_ifF e3).trans exB_nil), exB_cons e4, exB_cons ((exS_ifF e5).trans exB_nil)]
      exact exB_rt (exS_ret (ev_idx rfl rfl (jidx hm hg)))
    | none =>
      rw [hg] at e5
      obtain ⟨N, rfl⟩ : ∃ N', N = N' + 1 := ⟨N - 1, by omega⟩
      obtain ⟨v, hv⟩ : ∃ v, v = min p q := ⟨_, rfl⟩
      have ct := top_ok (n := N + 1) Ht hF1 S ex ey
      have ct : call T (N + 1 + 1) ft [.ref s, dN (j + 2), dN (l + 2)] h = some (dN v, h) := by rw [hv]; exact ct
      obtain ⟨xa, xs⟩ := sid_ok W (v := v) hx (by rw [hpx]; omega) (by omega)
      obtain ⟨ya, ys⟩ := sid_ok W (v := v) hy (by rw [hpy]; omega) (by omega)
      have c1 := sid_call (n := N + 1) (v := v) Hs' hF1 S hx false
      have c2 := sid_call (n := N + 1) (v := v) Hs' hF1 S hy false
      have xf := xa false
      have yf := ya false
      generalize sidN ns v false (j + 2) = x0 at c1 xf xs
      generalize sidN ns v false (l + 2) = y0 at c2 yf ys
      obtain ⟨ns1, memo1, r1, c3, x1, w1, o1, v1, p1, s1, z1, t1⟩ := ih (N := N) (by omega) S hm m1 m2 m3 W JO (x := x0) (y := y0) xf.1 yf.1 (by omega) (by omega) (by omega)
      have S1 : SAt (oh h a b m ns1 (jO memo1)) s a b ns1 := S.oh m1 m2 m3 ns1 (jO memo1)
      have l1 := x1.len
      have hpx1 : plc M ns1 (j + 2) = p := by rw [x1.plc hx, hpx]
      have hpy1 : plc M ns1 (l + 2) = q := by rw [x1.plc hy, hpy]
      obtain ⟨xa1, xs1⟩ := sid_ok w1 (v := v) (k := j + 2) (by omega) (by rw [hpx1]; omega) (by omega)
      obtain ⟨ya1, ys1⟩ := sid_ok w1 (v := v) (k := l + 2) (by omega) (by rw [hpy1]; omega) (by omega)
      have c4 := sid_call (n := N + 1) (v := v) (k := j + 2) Hs' hF1 S1 (by omega) true
      have c5 := sid_call (n := N + 1) (v := v) (k := l + 2) Hs' hF1 S1 (by omega) true
      have xt := xa1 true
      have yt := ya1 true
      generalize sidN ns1 v true (j + 2) = u0 at c4 xt xs1
      generalize sidN ns1 v true (l + 2) = u1 at c5 yt ys1
      obtain ⟨ns2, memo2, r2, c6, x2, w2, o2, v2, p2, s2, z2, t2⟩ := ih (N := N) (by omega) S1 (oh_m hml) m1 m2 m3 w1 o1 (x := u0) (y := u1) xt.1 yt.1 (by omega) (by omega) (by omega)
      rw [oh_oh n1 m2 m3] at c6
      have S2 : SAt (oh h a b m ns2 (jO memo2)) s a b ns2 := S.oh m1 m2 m3 ns2 (jO memo2)
      have l2 := x2.len
      have pr1 : plc M ns2 r1 = plc M ns1 r1 := x2.plc v1
      have mk := mkP_ok (M := M) w2 (v := v) (w := r1) (i := r2) (by omega) (by omega) v2 (by rw [pr1]; omega) (by omega)
      have c7 := make_ok (n := N + 1) Hm hF1 hF2 S2 (by omega) v r1 r2
      generalize mkP ns2 (v, r1, r2) = w at mk c7
      obtain ⟨mw, mx, ml, mv, mp, ms⟩ := mk
      rw [sth_oh n1 m2 m3] at c7
      have l3 := mx.len
      have xall := x1.trans (x2.trans mx)
      have sall : ∀ g, sem w.2 g w.1 = (sem ns g (j + 2) && sem ns g (l + 2)) := fun g => by
        rw [ms g]
        cases hgv : g v with
        | true =>
          have a1 := xs1 g
          have a2 := ys1 g
          rw [hgv, if_pos rfl] at a1 a2
          rw [if_pos rfl, s2 g, ← a1, ← a2, x1.sem W hx, x1.sem W hy]
        | false =>
          have a1 := xs g
          have a2 := ys g
          rw [hgv, if_neg (by decide)] at a1 a2
          rw [if_neg (by decide), x2.sem w1 v1, s1 g, ← a1, ← a2]
      have hmin : min (plc M ns (j + 2)) (plc M ns (l + 2)) = v := by rw [hpx, hpy, hv]
      have hJO : JOk M w.2 (pG memo2 kk w.1) := ⟨fun x' r' hk' => by
        rw [gG_put] at hk'
        split at hk'
        · rename_i ek
          subst ek
          cases hk'
          have b1 : plc M w.2 (j + 2) = plc M ns (j + 2) := xall.plc hx
          have b2 : plc M w.2 (l + 2) = plc M ns (l + 2) := xall.plc hy
          rcases hkey with ⟨q1, q2⟩ | ⟨q1, q2⟩
          · exact ⟨by omega, by omega, mv, by rw [q1, q2, b1, b2, hmin]; exact mp, fun g => by rw [sall g, q1, q2, xall.sem W hx, xall.sem W hy]⟩
          · exact ⟨by omega, by omega, mv, by rw [q1, q2, b1, b2, Nat.min_comm, hmin]; exact mp, fun g => by rw [sall g, q1, q2, xall.sem W hx, xall.sem W hy, Bool.and_comm]⟩
        · exact (o2.ext w2 mx).ok x' r' hk'⟩
      have pl := pG_len memo2 kk w.1
      refine ⟨w.2, pG memo2 kk w.1, w.1, ?_, xall, mw, hJO, mv, by rw [hmin]; exact mp, sall, by omega, by omega⟩
      have hget : gG (pG memo2 kk w.1) kk = some w.1 := by rw [gG_put, if_pos rfl]
      refine H.rt rfl ⟨[some (.ref s), some (dN (j + 2)), some (dN (l + 2)), some (.ref m), some (dP kk), some (dN v), some (dN r1), some (dN r2)], ?_⟩ (leave_len oh_len rfl (oh_closed jO_closed))
      show exB (cn T (N + 1 + 1)) (Bjoin ft fs fj fm) [some (.ref s), some (dN (j + 2)), some (dN (l + 2)), some (.ref m), none, none, none, none] h = _
      have hself : ∀ (g : Hs) (a5 a6 a7 : Option D), ev (cn T (N + 1 + 1)) (.var 0) [some (.ref s), some (dN (j + 2)), some (dN (l + 2)), some (.ref m), some (dP kk), a5, a6, a7] g = some (.ref s, g) := fun _ _ _ _ => rfl
      have t1 : exS (cn T (N + 1 + 1)) (.set 5 (.mcl 0 "top" ft (.var 0) (.cons (.var 1) (.cons (.var 2) .nil)))) [some (.ref s), some (dN (j + 2)), some (dN (l + 2)), some (.ref m), some (dP kk), none, none, none] h = some (.nx, [some (.ref s), some (dN (j + 2)), some (dN (l + 2)), some (.ref m), some (dP kk), some (dN v), none, none], h) :=
        exS_set ((ev_mcl (hself h _ _ _) (ins_no S (by decide +kernel)) (evA_cons (d := dN (j + 2)) (h1 := h) rfl (evA_one (d := dN (l + 2)) (h1 := h) rfl))).trans ct)
      have t2 : exS (cn T (N + 1 + 1)) (.set 6 (.mcl 0 "joined" fj (.var 0) (.cons (.mcl 0 "side" fs (.var 0) (.cons (.var 1) (.cons (.var 5) (.cons (.cst (.bl false)) .nil)))) (.cons (.mcl 0 "side" fs (.var 0) (.cons (.var 2) (.cons (.var 5) (.cons (.cst (.bl false)) .nil)))) (.cons (.var 3) .nil))))) [some (.ref s), some (dN (j + 2)), some (dN (l + 2)), some (.ref m), some (dP kk), some (dN v), none, none] h = some (.nx, [some (.ref s), some (dN (j + 2)), some (dN (l + 2)), some (.ref m), some (dP kk), some (dN v), some (dN r1), none], oh h a b m ns1 (jO memo1)) :=
        exS_set ((ev_mcl (hself h _ _ _) (ins_no S (by decide +kernel)) (evA_cons ((ev_mcl (hself h _ _ _) (ins_no S (by decide +kernel)) (evA_cons (d := dN (j + 2)) (h1 := h) rfl (evA_cons (d := dN v) (h1 := h) rfl (evA_one (d := .bl false) (h1 := h) rfl)))).trans c1)
          (evA_cons ((ev_mcl (hself h _ _ _) (ins_no S (by decide +kernel)) (evA_cons (d := dN (l + 2)) (h1 := h) rfl (evA_cons (d := dN v) (h1 := h) rfl (evA_one (d := .bl false) (h1 := h) rfl)))).trans c2) (evA_one (d := .ref m) (h1 := h) rfl)))).trans c3)
      have t3 : exS (cn T (N + 1 + 1)) (.set 7 (.mcl 0 "joined" fj (.var 0) (.cons (.mcl 0 "side" fs (.var 0) (.cons (.var 1) (.cons (.var 5) (.cons (.cst (.bl true)) .nil)))) (.cons (.mcl 0 "side" fs (.var 0) (.cons (.var 2) (.cons (.var 5) (.cons (.cst (.bl true)) .nil)))) (.cons (.var 3) .nil))))) [some (.ref s), some (dN (j + 2)), some (dN (l + 2)), some (.ref m), some (dP kk), some (dN v), some (dN r1), none] (oh h a b m ns1 (jO memo1)) = some (.nx, [some (.ref s), some (dN (j + 2)), some (dN (l + 2)), some (.ref m), some (dP kk), some (dN v), some (dN r1), some (dN r2)], oh h a b m ns2 (jO memo2)) :=
        exS_set ((ev_mcl (hself _ _ _ _) (ins_no S1 (by decide +kernel)) (evA_cons ((ev_mcl (hself _ _ _ _) (ins_no S1 (by decide +kernel)) (evA_cons (d := dN (j + 2)) (h1 := oh h a b m ns1 (jO memo1)) rfl (evA_cons (d := dN v) (h1 := oh h a b m ns1 (jO memo1)) rfl (evA_one (d := .bl true) (h1 := oh h a b m ns1 (jO memo1)) rfl)))).trans c4)
          (evA_cons ((ev_mcl (hself _ _ _ _) (ins_no S1 (by decide +kernel)) (evA_cons (d := dN (l + 2)) (h1 := oh h a b m ns1 (jO memo1)) rfl (evA_cons (d := dN v) (h1 := oh h a b m ns1 (jO memo1)) rfl (evA_one (d := .bl true) (h1 := oh h a b m ns1 (jO memo1)) rfl)))).trans c5) (evA_one (d := .ref m) (h1 := oh h a b m ns1 (jO memo1)) rfl)))).trans c6)
      have a3 : ev (cn T (N + 1 + 1)) (.mcl 0 "make" fm (.var 0) (.cons (.var 5) (.cons (.var 6) (.cons (.var 7) .nil)))) [some (.ref s), some (dN (j + 2)), some (dN (l + 2)), some (.ref m), some (dP kk), some (dN v), some (dN r1), some (dN r2)] (oh h a b m ns2 (jO memo2)) = some (dN w.1, oh h a b m w.2 (jO memo2)) :=
        (ev_mcl (hself _ _ _ _) (ins_no S2 (by decide +kernel)) (evA_cons (d := dN v) (h1 := oh h a b m ns2 (jO memo2)) rfl (evA_cons (d := dN r1) (h1 := oh h a b m ns2 (jO memo2)) rfl (evA_one (d := dN r2) (h1 := oh h a b m ns2 (jO memo2)) rfl)))).trans c7
      have t4 : exS (cn T (N + 1 + 1)) (.sub (.var 3) (.var 4) (.mcl 0 "make" fm (.var 0) (.cons (.var 5) (.cons (.var 6) (.cons (.var 7) .nil))))) [some (.ref s), some (dN (j + 2)), some (dN (l + 2)), some (.ref m), some (dP kk), some (dN v), some (dN r1), some (dN r2)] (oh h a b m ns2 (jO memo2)) = some (.nx, [some (.ref s), some (dN (j + 2)), some (dN (l + 2)), some (.ref m), some (dP kk), some (dN v), some (dN r1), some (dN r2)], oh h a b m w.2 (jO (pG memo2 kk w.1))) := by
        have es := jput (h := h) (a := a) (b := b) (ns := w.2) (memo := memo2) hml (by omega) kk w.1
        show ((ev (cn T (N + 1 + 1)) (.mcl 0 "make" fm (.var 0) (.cons (.var 5) (.cons (.var 6) (.cons (.var 7) .nil)))) [some (.ref s), some (dN (j + 2)), some (dN (l + 2)), some (.ref m), some (dP kk), some (dN v), some (dN r1), some (dN r2)] (oh h a b m ns2 (jO memo2))).bind fun p => _) = _
        rw [a3]
        simp only [exS, ev, evA, evO, evT, evC, evI_seq, evF_disp, evF_lst, evF_slk, evF_cat, cn_cf, startD, bltD, lenD, Cr.intD, tupleD, sumD, anyD, allD, absD, minD, maxD, gcdD, binD, cmpD, truD, idxD, isiD, mthD, isN, List.map_cons, List.map_nil, List.length_cons, List.length_nil, Option.bind_some, Option.map_some, List.set_cons_zero, List.set_cons_succ, List.getElem?_cons_zero, List.getElem?_cons_succ, List.replicate, List.cons_append, List.nil_append, List.append_nil, Nat.zero_add, Nat.add_one_sub_one, Nat.sub_self, putT, putS, if_true, and_self, sz0, sz1, sz2, sz3, sz5, sz6, wipeD, Nat.reduceAdd, Nat.reduceSub, es]
      have jr : exB (cn T (N + 1 + 1)) (Jrec ft fs fj fm) [some (.ref s), some (dN (j + 2)), some (dN (l + 2)), some (.ref m), some (dP kk), none, none, none] h = some (.nx, [some (.ref s), some (dN (j + 2)), some (dN (l + 2)), some (.ref m), some (dP kk), some (dN v), some (dN r1), some (dN r2)], oh h a b m w.2 (jO (pG memo2 kk w.1))) := by
        rw [Jrec, exB_cons t1, exB_cons t2, exB_cons t3, exB_cons t4]
        exact exB_nil
      rw [Bjoin, exB_cons ((exS_ifF e1).trans exB_nil), exB_cons ((exS_ifF e2).trans exB_nil), exB_cons ((exS_ifF e3).trans exB_nil), exB_cons e4, exB_cons ((exS_ifT e5).trans jr)]
      exact exB_rt (exS_ret (ev_idx rfl rfl (jidx (oh_m hml) hget)))
end
end Cr
/-! The store 11: no, and_also, a new store. -/
namespace Cr
open PySem PySem.Spec PyProof.Rows L2
theorem exB_step {c : Cn} {se se1 : S} {h h1 : Hs} {s : CS} {b : CB} {r : Option (Fl × S × Hs)} (e1 : exS c s se h = some (.nx, se1, h1)) (e2 : exB c b se1 h1 = r) : exB c (.cons s b) se h = r := (exB_cons e1).trans e2
theorem exS_fset {c : Cn} {se : S} {h h1 h2 h3 : Hs} {o e : CE} {f : Str} {d x : D} (e1 : ev c e se h = some (d, h1)) (e2 : ev c o se h1 = some (x, h2)) (e3 : fputD c.fok h2 f d x = some h3) : exS c (.fset o f e) se h = some (.nx, se, h3) := by
  simp only [exS, e1, e2, e3, Option.bind_some, Option.map_some]
theorem ext_only {a b c : List Nd} : Ext a b → Ext b c → Ext a c := Ext.trans
theorem leave_take {h h' : Hs} {d : D} (p : pureD d = true) (hc : ∀ (n : Nat) (o : O), n < h.length → h'[n]? = some o → h[n]? = some o ∨ clsdO h.length o = true) : leave true h d h' = some (d, h'.take h.length) := leave_gen (fun n o hn e => hc n o hn e) (frzN_pure p)
theorem sth_app {h ex : Hs} {a b : Nat} {ns : List Nd} (ha : a < h.length) (hb : b < h.length) : sth (h ++ ex) a b ns = sth h a b ns ++ ex := by
  unfold sth
  rw [List.set_append_left _ _ ha, List.set_append_left _ _ (by rw [List.length_set]; exact hb)]
theorem oh_app {h : Hs} {a b : Nat} {ns : List Nd} {x o : O} (ha : a < h.length) (hb : b < h.length) : oh (h ++ [x]) a b h.length ns o = sth h a b ns ++ [o] := by
  unfold oh
  rw [sth_app ha hb, List.set_append_right _ _ (by rw [sth_len]; exact Nat.le_refl _), sth_len, Nat.sub_self]
  rfl
theorem oh_take {h : Hs} {a b : Nat} {ns : List Nd} {x o : O} (ha : a < h.length) (hb : b < h.length) : (oh (h ++ [x]) a b h.length ns o).take h.length = sth h a b ns := by
  rw [oh_app ha hb, List.take_left' sth_len]
theorem oh_leave {h : Hs} {a b : Nat} {ns : List Nd} {x o : O} {d : D} (ha : a < h.length) (hb : b < h.length) (p : pureD d = true) (ho : ∀ k, clsdO k o = true) : leave true h d (oh (h ++ [x]) a b h.length ns o) = some (d, sth h a b ns) := by
  rw [leave_take p (fun n u hn e => ?_), oh_take ha hb]
  rcases oh_closed (k := h.length) (ho _) n u e with z | z
  · rw [List.getElem?_append_left hn] at z
    exact .inl z
  · exact .inr z
/-- a call that adds nodes to the store -/
def StR (T : Tb) (f M : Nat) (h : Hs) (a b : Nat) (ns : List Nd) (args : List D) (L E : Nat) (F : (Nat → Bool) → Bool) : Prop :=
  ∃ ns' r, call T L f args h = some (dN r, sth h a b ns') ∧ Ext ns ns' ∧ Wf M ns' ∧ r < ns'.length + 2 ∧ (∀ g, sem ns' g r = F g) ∧ ns'.length + 1 ≤ ns.length + E
section
variable {T : Tb}
def Bno (fg : Nat) : CB := (.cons (.ret (.mcl 0 "negated" fg (.var 0) (.cons (.var 1) (.cons .dnK .nil)))) .nil)
def Band (fj : Nat) : CB := (.cons (.ret (.mcl 0 "joined" fj (.var 0) (.cons (.var 1) (.cons (.var 2) (.cons .dnT .nil))))) .nil)
theorem no_ok {f fg fm : Nat} (H : Has T f (Bno fg) 2 2 true) (Hg : Has T fg (Bneg fm fg) 3 6 true) (Hm : Has T fm Bmake 4 5 true) (hF1 : T.fok 0 "nodes" = true) (hF2 : T.fok 0 "places" = true) {M N : Nat} (hM : M ≤ N) {h : Hs} {s a b : Nat} {ns : List Nd} {k : Nat}
    (S : SAt h s a b ns) (W : Wf M ns) (hk : k < ns.length + 2) (hsz : ns.length + 2 ^ M ≤ 40000) : StR T f M h a b ns [.ref s, dN k] (N + 3) (2 ^ M) fun g => !sem ns g k := by
  obtain ⟨l1, l2, l3⟩ := S.la
  have S1 : SAt (h ++ [O.dK []]) s a b ns := S.app _
  have hm : (h ++ [O.dK []])[h.length]? = some (.dK (mD [])) := by rw [getA0]; rfl
  obtain ⟨ns', memo', r, c, x, w, o, v, p, q, z, _⟩ := negated_ok Hg Hm hF1 hF2 (M := M) M (N := N) (k := k) hM S1 hm (by omega) (by omega) (by omega) W ⟨fun k r e => by simp [memoG] at e⟩ hk (by omega) (by omega) (by show 0 + 2 ^ M ≤ 50000; omega)
  refine ⟨ns', r, H.rt rfl ⟨[some (.ref s), some (dN k)], ?_⟩ (oh_leave (x := .dK []) (o := .dK (mD memo')) l1 l2 rfl fun k => clsds_pure (mD_pure memo')), x, w, v, q, z⟩
  exact exB_rt (exS_ret ((ev_mcl (d := .ref s) (ds := [dN k, .ref h.length]) (h2 := h ++ [O.dK []]) rfl (ins_no S (by decide +kernel)) (evA_cons (d := dN k) (h1 := h) rfl (evA_one (d := .ref h.length) (h1 := h ++ [O.dK []]) rfl))).trans c))
theorem and_ok {f ft fs fj fm : Nat} (H : Has T f (Band fj) 3 3 true) (Hj : Has T fj (Bjoin ft fs fj fm) 4 8 true) (Ht : Has T ft Btop 3 3 true) (Hs' : Has T fs Bside 4 4 true) (Hm : Has T fm Bmake 4 5 true) (hF1 : T.fok 0 "nodes" = true) (hF2 : T.fok 0 "places" = true) {M N : Nat} (hM : M ≤ N) {h : Hs} {s a b : Nat} {ns : List Nd} {k j : Nat}
    (S : SAt h s a b ns) (W : Wf M ns) (hk : k < ns.length + 2) (hj : j < ns.length + 2) (hsz : ns.length + 2 ^ M ≤ 40000) : StR T f M h a b ns [.ref s, dN k, dN j] (N + 3) (2 ^ M) fun g => sem ns g k && sem ns g j := by
  obtain ⟨l1, l2, l3⟩ := S.la
  have S1 : SAt (h ++ [O.dT []]) s a b ns := S.app _
  have hm : (h ++ [O.dT []])[h.length]? = some (jO []) := by rw [getA0]; rfl
  obtain ⟨ns', memo', r, c, x, w, o, v, p, q, z, _⟩ := joined_ok Hj Ht Hs' Hm hF1 hF2 (M := M) M (N := N) (x := k) (y := j) hM S1 hm (by omega) (by omega) (by omega) W ⟨fun k r e => by simp [gG] at e⟩ hk hj (by omega) (by omega) (by show 0 + 2 ^ M ≤ 50000; omega)
  refine ⟨ns', r, H.rt rfl ⟨[some (.ref s), some (dN k), some (dN j)], ?_⟩ (oh_leave (x := .dT []) (o := jO memo') l1 l2 rfl fun k => jO_closed), x, w, v, q, z⟩
  exact exB_rt (exS_ret ((ev_mcl (d := .ref s) (ds := [dN k, dN j, .ref h.length]) (h2 := h ++ [O.dT []]) rfl (ins_no S (by decide +kernel)) (evA_cons (d := dN k) (h1 := h) rfl (evA_cons (d := dN j) (h1 := h) rfl (evA_one (d := .ref h.length) (h1 := h ++ [O.dT []]) rfl)))).trans c))
/-! ### a new store -/
def Binit : CB := (.cons (.fset (.var 0) "nodes" (.bx (.disp (.cons (.tup (.cons (.cst (.int 0)) (.cons (.cst (.int 0)) (.cons (.cst (.int 0)) .nil)))) (.cons (.tup (.cons (.cst (.int 0)) (.cons (.cst (.int 1)) (.cons (.cst (.int 1)) .nil)))) .nil))))) (.cons (.fset (.var 0) "places" .dnT) .nil))
/-- what a new store makes -/
def newS (l : Nat) : Hs := [.ins 0 [("nodes", .ref (l + 1)), ("places", .ref (l + 2))], .lst (base.map dT), .dT []]
theorem newS_at {h : Hs} : SAt (h ++ newS h.length) h.length (h.length + 1) (h.length + 2) [] := ⟨getA (k := 0), getA (k := 1), getA (k := 2)⟩
theorem init_ok {f n : Nat} (H : Has T f Binit 1 1 false) (hF1 : T.fok 0 "nodes" = true) (hF2 : T.fok 0 "places" = true) {h : Hs} : call T (n + 1) f [.ref h.length] (h ++ [O.ins 0 []]) = some (.non, h ++ newS h.length) := by
  refine H.nx rfl ⟨[some (.ref h.length)], ?_⟩ leave_no
  unfold Binit
  have e0 : (h ++ [O.ins 0 [], .lst (base.map dT)])[h.length]? = some (.ins 0 []) := getA (k := 0)
  have e1 : fputD T.fok (h ++ [O.ins 0 [], .lst (base.map dT)]) "nodes" (.ref (h.length + 1)) (.ref h.length) = some (h ++ [O.ins 0 [("nodes", .ref (h.length + 1))], .lst (base.map dT)]) := by
    simp only [fputD, e0, hF1]
    show some ((h ++ _).set h.length _) = _
    rw [setA0]
    rfl
  have e2 : (h ++ [O.ins 0 [("nodes", .ref (h.length + 1))], .lst (base.map dT), .dT []])[h.length]? = some (.ins 0 [("nodes", .ref (h.length + 1))]) := getA (k := 0)
  have e3 : fputD T.fok (h ++ [O.ins 0 [("nodes", .ref (h.length + 1))], .lst (base.map dT), .dT []]) "places" (.ref (h.length + 2)) (.ref h.length) = some (h ++ newS h.length) := by
    simp only [fputD, e2, hF2]
    show some ((h ++ _).set h.length _) = _
    rw [setA0]
    rfl
  have a1 : ev (cn T n) (.bx (.disp (.cons (.tup (.cons (.cst (.int 0)) (.cons (.cst (.int 0)) (.cons (.cst (.int 0)) .nil)))) (.cons (.tup (.cons (.cst (.int 0)) (.cons (.cst (.int 1)) (.cons (.cst (.int 1)) .nil)))) .nil)))) [some (.ref h.length)] (h ++ [O.ins 0 []]) = some (.ref (h.length + 1), h ++ [O.ins 0 [], .lst (base.map dT)]) := by
    rw [ev_bx (xs := base.map dT) (h1 := h ++ [O.ins 0 []]) (by simp only [exS, ev, evA, evO, evT, evC, evI_seq, evF_disp, evF_lst, evF_slk, evF_cat, cn_cf, startD, bltD, lenD, Cr.intD, tupleD, sumD, anyD, allD, absD, minD, maxD, gcdD, binD, cmpD, truD, idxD, isiD, mthD, isN, List.map_cons, List.map_nil, List.length_cons, List.length_nil, Option.bind_some, Option.map_some, List.set_cons_zero, List.set_cons_succ, List.getElem?_cons_zero, List.getElem?_cons_succ, List.replicate, List.cons_append, List.nil_append, List.append_nil, Nat.zero_add, Nat.add_one_sub_one, Nat.sub_self, putT, putS, if_true, and_self, sz0, sz1, sz2, sz3, sz5, sz6, wipeD, Nat.reduceAdd, Nat.reduceSub]; rfl), List.length_append, List.append_assoc]
    rfl
  have a2 : ev (cn T n) .dnT [some (.ref h.length)] (h ++ [O.ins 0 [("nodes", .ref (h.length + 1))], .lst (base.map dT)]) = some (.ref (h.length + 2), h ++ [O.ins 0 [("nodes", .ref (h.length + 1))], .lst (base.map dT), .dT []]) := by
    show some (D.ref (h ++ [O.ins 0 [("nodes", .ref (h.length + 1))], .lst (base.map dT)]).length, (h ++ [O.ins 0 [("nodes", .ref (h.length + 1))], .lst (base.map dT)]) ++ [O.dT []]) = _
    rw [List.length_append, List.append_assoc]
    rfl
  refine exB_step (se1 := [some (.ref h.length)]) (h1 := h ++ [O.ins 0 [("nodes", .ref (h.length + 1))], .lst (base.map dT)]) ?_ (exB_step (se1 := [some (.ref h.length)]) (h1 := h ++ newS h.length) ?_ exB_nil)
  · exact exS_fset a1 (x := .ref h.length) (h2 := h ++ [O.ins 0 [], .lst (base.map dT)]) rfl e1
  · exact exS_fset a2 (x := .ref h.length) (h2 := h ++ [O.ins 0 [("nodes", .ref (h.length + 1))], .lst (base.map dT), .dT []]) rfl e3
theorem new_ok {f n : Nat} (H : Has T f Binit 1 1 false) (hi : T.ini 0 = some f) (hF1 : T.fok 0 "nodes" = true) (hF2 : T.fok 0 "places" = true) {h : Hs} {se : S} : ev (cn T (n + 2)) (.new 0) se h = some (.ref h.length, h ++ newS h.length) := by
  show ((T.ini 0).bind fun f => (call T (n + 1) f [.ref h.length] (h ++ [O.ins 0 []])).bind fun p => match p.1 with
      | .non => some (D.ref h.length, p.2)
      | _ => none) = _
  rw [hi]
  show ((call T (n + 1) f [.ref h.length] (h ++ [O.ins 0 []])).bind fun p => match p.1 with
      | .non => some (D.ref h.length, p.2)
      | _ => none) = _
  rw [init_ok H hF1 hF2]
  rfl
end
end Cr
/-! The store 12: taken_in. -/
namespace Cr
open PySem PySem.Spec PyProof.Rows L2
/-- a condition as a table -/
def dC (rs : List Nd) (k : Nat) : D := .tup [.tup (rs.map dT), dN k]
theorem pure_C (rs : List Nd) (k : Nat) : pureD (dC rs k) = true := by
  show (pureDs (rs.map dT) && (pureD (dN k) && true)) = true
  rw [pure_T]
  rfl
section
variable {T : Tb}
def Ltak (fm : Nat) : CB := (.cons (.exp (.mth .append (.var 2) (.cons (.mcl 0 "make" fm (.var 0) (.cons (.var 3) (.cons (.idx (.var 2) (.var 4)) (.cons (.idx (.var 2) (.var 5)) .nil)))) .nil))) .nil)
def Btak (fm : Nat) : CB := (.cons (.set 2 (.bx (.disp (.cons (.cst (.int 0)) (.cons (.cst (.int 1)) .nil))))) (.cons (.for_ (.tp [3, 4, 5]) (.seq (.idx (.var 1) (.cst (.int 0)))) (Ltak fm)) (.cons (.ret (.idx (.var 2) (.idx (.var 1) (.cst (.int 1))))) .nil)))
/-- the numbers of the first rows -/
structure TkOk (M : Nat) (rs ns : List Nd) (nums : List Nat) : Prop where
  ok : ∀ k v, nums[k]? = some v → v < ns.length + 2 ∧ plc M rs k ≤ plc M ns v ∧ ∀ g, sem ns g v = sem rs g k
theorem idx_nums {h : Hs} {R k v : Nat} {nums : List Nat} (e : h[R]? = some (.lst (dNs nums))) (ek : nums[k]? = some v) : idxD h (.ref R) (dN k) = some (dN v) := by
  simp only [idxD, e, dN]
  exact atI_nat (by unfold dNs; rw [List.getElem?_map, ek]; rfl)
theorem ev_app {c : Cn} {se : S} {h h1 h2 h3 : Hs} {x y : CE} {n : Nat} {xs ys : List D} {d : D} (e1 : ev c x se h = some (.ref n, h1)) (el : h1[n]? = some (.lst xs)) (e2 : ev c y se h1 = some (d, h2)) (e3 : h2[n]? = some (.lst ys)) (hl : ys.length < sizeLine) (eh : h2.set n (.lst (ys ++ [d])) = h3) : exS c (.exp (.mth .append x (.cons y .nil))) se h = some (.nx, se, h3) := by
  subst eh
  refine exS_exp (d := .non) ?_
  show ((ev c x se h).bind fun p => (lstOf p.2 p.1).bind fun _ => (evA c (.cons y .nil) se p.2).bind fun q => mthD .append q.2 p.1 q.1) = _
  rw [e1]
  show ((lstOf h1 (.ref n)).bind fun _ => (evA c (.cons y .nil) se h1).bind fun q => mthD .append q.2 (.ref n) q.1) = _
  simp only [lstOf, el, Option.bind_some, evA_one e2, mthD, appendD, e3, if_pos hl]
theorem taken_loop {fm n : Nat} (Hm : Has T fm Bmake 4 5 true) (hF1 : T.fok 0 "nodes" = true) (hF2 : T.fok 0 "places" = true) {M : Nat} {h : Hs} {s a b : Nat} {ns rs : List Nd} {x1 : Option D} (S : SAt h s a b ns) (W : Wf M ns) (WR : Wf M rs) (hsz : ns.length + rs.length ≤ 40000) :
    ∃ x3 x4 x5 ns' nums, forD (fun _ => True) (.tp [3, 4, 5]) (exB (cn T (n + 1)) (Ltak fm)) (rs.map dT) [some (.ref s), x1, some (.ref h.length), none, none, none] (h ++ [O.lst (dNs [0, 1])]) = some (.nx, [some (.ref s), x1, some (.ref h.length), x3, x4, x5], sth h a b ns' ++ [O.lst (dNs nums)]) ∧
      Ext ns ns' ∧ Wf M ns' ∧ nums.length = rs.length + 2 ∧ TkOk M rs ns' nums ∧ ns'.length ≤ ns.length + rs.length := by
  obtain ⟨l1, l2, l3⟩ := S.la
  obtain ⟨n1, n2, n3⟩ := S.ne
  obtain ⟨se', h', e1, x3, x4, x5, ns', nums, e2, e3, a1, a2, a3, a4, a5⟩ := forD_run (st := fun _ => True) (tg := .tp [3, 4, 5]) (b := exB (cn T (n + 1)) (Ltak fm)) (xs := rs.map dT)
    (fun i se h' => ∃ x3 x4 x5 ns' nums, se = [some (.ref s), x1, some (.ref h.length), x3, x4, x5] ∧ h' = sth h a b ns' ++ [O.lst (dNs nums)] ∧ Ext ns ns' ∧ Wf M ns' ∧ nums.length = i + 2 ∧ TkOk M rs ns' nums ∧ ns'.length ≤ ns.length + i)
    (se := [some (.ref s), x1, some (.ref h.length), none, none, none]) (h := h ++ [O.lst (dNs [0, 1])]) ⟨none, none, none, ns, [0, 1], rfl, by rw [S.same], Ext.refl _, W, rfl, ⟨fun k v e => by
      match k, e with
      | 0, e => cases e; exact ⟨by omega, Nat.le_refl _, fun _ => rfl⟩
      | 1, e => cases e; exact ⟨by omega, Nat.le_refl _, fun _ => rfl⟩
      | k + 2, e => simp at e⟩, by omega⟩ (fun _ _ _ _ => trivial) (by
      rintro i x se h' ex ⟨x3, x4, x5, ns', nums, rfl, e, xx, w, hn, tk, hl⟩
      subst e
      rw [List.getElem?_map] at ex
      obtain ⟨⟨p, u, v⟩, er, rfl⟩ := Option.map_eq_some_iff.mp ex
      have hi := (List.getElem?_eq_some_iff.mp er).1
      obtain ⟨k1, k2, k3, k4, k5⟩ := WR.ok i p u v er
      obtain ⟨nu, eu⟩ : ∃ z, nums[u]? = some z := ⟨_, List.getElem?_eq_getElem (by omega)⟩
      obtain ⟨nv, ev'⟩ : ∃ z, nums[v]? = some z := ⟨_, List.getElem?_eq_getElem (by omega)⟩
      obtain ⟨u1, u2, u3⟩ := tk.ok u nu eu
      obtain ⟨v1, v2, v3⟩ := tk.ok v nv ev'
      have mk := mkP_ok (M := M) w (v := p) (w := nu) (i := nv) k1 u1 v1 (by omega) (by omega)
      have S' : SAt (sth h a b ns' ++ [O.lst (dNs nums)]) s a b ns' := (S.to ns').app _
      have c := make_ok (n := n) Hm hF1 hF2 S' (by omega) p nu nv
      generalize mkP ns' (p, nu, nv) = q at mk c
      obtain ⟨mw, mx, ml, mv, mp, ms⟩ := mk
      rw [sth_app (by rw [sth_len]; exact l1) (by rw [sth_len]; exact l2), sth_sth n1] at c
      have gl : ∀ ns'' nums', (sth h a b ns'' ++ [O.lst (dNs nums')])[h.length]? = some (.lst (dNs nums')) := fun ns'' nums' => by
        have := getA (h := sth h a b ns'') (ex := [.lst (dNs nums')]) (k := 0)
        rw [sth_len] at this
        exact this
      refine ⟨[some (.ref s), x1, some (.ref h.length), some (dN p), some (dN u), some (dN v)], [some (.ref s), x1, some (.ref h.length), some (dN p), some (dN u), some (dN v)], sth h a b q.2 ++ [O.lst (dNs (nums ++ [q.1]))], rfl, ?_, _, _, _, q.2, nums ++ [q.1], rfl, rfl, xx.trans mx, mw, by rw [List.length_append, hn]; rfl, ⟨fun k z e => ?_⟩, by omega⟩
      · refine exB_step (ev_app (n := h.length) (xs := dNs nums) (ys := dNs nums) (d := dN q.1) (h1 := sth h a b ns' ++ [O.lst (dNs nums)]) (h2 := sth h a b q.2 ++ [O.lst (dNs nums)]) rfl (gl _ _) ?_ (gl _ _) ?_ ?_) exB_nil
        · exact (ev_mcl (d := .ref s) (ds := [dN p, dN nu, dN nv]) (h2 := sth h a b ns' ++ [O.lst (dNs nums)]) rfl (ins_no S' (by decide +kernel)) (evA_cons (d := dN p) (h1 := sth h a b ns' ++ [O.lst (dNs nums)]) rfl (evA_cons (ev_idx rfl rfl (idx_nums (gl _ _) eu)) (evA_one (ev_idx rfl rfl (idx_nums (gl _ _) ev')))))).trans c
        · have := sz_le (show (dNs nums).length + 1 ≤ 1000000 by unfold dNs; rw [List.length_map]; omega)
          omega
        · have := setA (h := sth h a b q.2) (ex := [.lst (dNs nums)]) (k := 0) (o := .lst (dNs nums ++ [dN q.1]))
          rw [sth_len] at this
          unfold dNs at this ⊢
          rw [List.map_append]
          exact this
      · by_cases hk : k < nums.length
        · rw [List.getElem?_append_left hk] at e
          obtain ⟨z1, z2, z3⟩ := tk.ok k z e
          have := mx.len
          exact ⟨by omega, by rw [mx.plc z1]; exact z2, fun g => by rw [mx.sem w z1]; exact z3 g⟩
        · have h5 := (List.getElem?_eq_some_iff.mp e).1
          rw [List.length_append, List.length_singleton] at h5
          have h6 : k = i + 2 := by omega
          subst h6
          rw [List.getElem?_append_right (by omega), hn, Nat.sub_self] at e
          cases e
          refine ⟨mv, by rw [plc_at, er]; exact mp, fun g => ?_⟩
          rw [ms g, sem_node WR er, u3 g, v3 g])
  subst e2 e3
  rw [List.length_map] at a3 a5
  exact ⟨x3, x4, x5, ns', nums, e1, a1, a2, a3, a4, a5⟩
theorem taken_ok {f fm n : Nat} (H : Has T f (Btak fm) 2 6 true) (Hm : Has T fm Bmake 4 5 true) (hF1 : T.fok 0 "nodes" = true) (hF2 : T.fok 0 "places" = true) {M : Nat} {h : Hs} {s a b : Nat} {ns rs : List Nd} {k : Nat} (S : SAt h s a b ns) (W : Wf M ns) (WR : Wf M rs) (hk : k < rs.length + 2) (hsz : ns.length + rs.length ≤ 40000) :
    StR T f M h a b ns [.ref s, dC rs k] (n + 2) (rs.length + 1) fun g => sem rs g k := by
  obtain ⟨l1, l2, l3⟩ := S.la
  obtain ⟨n1, n2, n3⟩ := S.ne
  obtain ⟨x3, x4, x5, ns', nums, e1, a1, a2, a3, a4, a5⟩ := taken_loop (n := n) (x1 := some (dC rs k)) Hm hF1 hF2 S W WR hsz
  obtain ⟨v, ev'⟩ : ∃ z, nums[k]? = some z := ⟨_, List.getElem?_eq_getElem (by omega)⟩
  obtain ⟨v1, v2, v3⟩ := a4.ok k v ev'
  have gl : (sth h a b ns' ++ [O.lst (dNs nums)])[h.length]? = some (.lst (dNs nums)) := by
    have := getA (h := sth h a b ns') (ex := [.lst (dNs nums)]) (k := 0)
    rw [sth_len] at this
    exact this
  refine ⟨ns', v, H.rt (h' := sth h a b ns' ++ [O.lst (dNs nums)]) (v := dN v) rfl ⟨[some (.ref s), some (dC rs k), some (.ref h.length), x3, x4, x5], ?_⟩ ?_, a1, a2, v1, v3, by omega⟩
  · refine exB_step (exS_set (ev_bx (xs := dNs [0, 1]) (h1 := h) (by simp only [exS, ev, evA, evO, evT, evC, evI_seq, evF_disp, evF_lst, evF_slk, evF_cat, cn_cf, startD, bltD, lenD, Cr.intD, tupleD, sumD, anyD, allD, absD, minD, maxD, gcdD, binD, cmpD, truD, idxD, isiD, mthD, isN, List.map_cons, List.map_nil, List.length_cons, List.length_nil, Option.bind_some, Option.map_some, List.set_cons_zero, List.set_cons_succ, List.getElem?_cons_zero, List.getElem?_cons_succ, List.replicate, List.cons_append, List.nil_append, List.append_nil, Nat.zero_add, Nat.add_one_sub_one, Nat.sub_self, putT, putS, if_true, and_self, sz0, sz1, sz2, sz3, sz5, sz6, wipeD, Nat.reduceAdd, Nat.reduceSub]; rfl))) (exB_step ((exS_for (p := ⟨rs.map dT, fun _ => True⟩) (h1 := h ++ [O.lst (dNs [0, 1])]) ?_).trans e1) (exB_rt (exS_ret ?_)))
    · simp only [exS, ev, evA, evO, evT, evC, evI_seq, evF_disp, evF_lst, evF_slk, evF_cat, cn_cf, startD, bltD, lenD, Cr.intD, tupleD, sumD, anyD, allD, absD, minD, maxD, gcdD, binD, cmpD, truD, idxD, isiD, mthD, isN, List.map_cons, List.map_nil, List.length_cons, List.length_nil, Option.bind_some, Option.map_some, List.set_cons_zero, List.set_cons_succ, List.getElem?_cons_zero, List.getElem?_cons_succ, List.replicate, List.cons_append, List.nil_append, List.append_nil, Nat.zero_add, Nat.add_one_sub_one, Nat.sub_self, putT, putS, if_true, and_self, sz0, sz1, sz2, sz3, sz5, sz6, wipeD, Nat.reduceAdd, Nat.reduceSub]
      simp only [dC, at0, Option.map_some, Option.bind_some]
    · exact ev_idx (d := .ref h.length) (e := dN k) rfl (ev_idx (d := dC rs k) rfl rfl (by simp only [dC, idxD, at1])) (idx_nums gl ev')
  · rw [leave_take rfl (fun j u hj e => ?_), List.take_left' sth_len]
    rw [List.getElem?_append_left (by rw [sth_len]; exact hj)] at e
    exact sth_closed j u e
end
end Cr
/-! The store 13: written, told. -/
namespace Cr
open PySem PySem.Spec PyProof.Rows L2
section
variable {T : Tb}
def Bwri (fw : Nat) : CB := (.cons (.ife (.cmp .In (.var 1) (.var 3)) (.cons (.retN) .nil) .nil) (.cons (.setT [4, 5, 6] (.idx (.fld (.var 0) "nodes") (.var 1))) (.cons (.exp (.mcl 0 "written" fw (.var 0) (.cons (.var 5) (.cons (.var 2) (.cons (.var 3) .nil))))) (.cons (.exp (.mcl 0 "written" fw (.var 0) (.cons (.var 6) (.cons (.var 2) (.cons (.var 3) .nil))))) (.cons (.exp (.mth .append (.var 2) (.cons (.tup (.cons (.var 4) (.cons (.idx (.var 3) (.var 5)) (.cons (.idx (.var 3) (.var 6)) .nil)))) .nil))) (.cons (.sub (.var 3) (.var 1) (.bin .Add (.blt .len (.cons (.var 2) .nil)) (.cst (.int 1)))) .nil))))))
/-- the rows written say what the nodes say -/
structure WrOk (M : Nat) (ns rs : List Nd) (memo : List (Nat × Nat)) : Prop where
  ok : ∀ k v, memoG memo k = some v → v < rs.length + 2 ∧ plc M ns k ≤ plc M rs v ∧ ∀ g, sem rs g v = sem ns g k
  lo : ∀ k, k < 2 → ∃ v, memoG memo k = some v
theorem WrOk.ext {M : Nat} {ns rs rs' : List Nd} {memo : List (Nat × Nat)} (h : WrOk M ns rs memo) (W : Wf M rs) (e : Ext rs rs') : WrOk M ns rs' memo :=
  ⟨fun k v hk => by
    obtain ⟨h1, h2, h3⟩ := h.ok k v hk
    have := e.len
    exact ⟨by omega, by rw [e.plc h1]; exact h2, fun g => by rw [e.sem W h1]; exact h3 g⟩, h.lo⟩
/-- the heap with the rows, the numbers -/
def wh (h : Hs) (R m : Nat) (rs : List Nd) (memo : List (Nat × Nat)) : Hs := (h.set R (.lst (rs.map dT))).set m (.dK (mD memo))
section
variable {h : Hs} {s a b R m : Nat} {ns rs rs' : List Nd} {memo memo' : List (Nat × Nat)}
theorem wh_len : (wh h R m rs memo).length = h.length := by unfold wh; rw [List.length_set, List.length_set]
theorem wh_R (hR : R < h.length) (hn : R ≠ m) : (wh h R m rs memo)[R]? = some (.lst (rs.map dT)) := by
  unfold wh
  rw [List.getElem?_set_ne hn.symm, List.getElem?_set_self hR]
theorem wh_m (hm : m < h.length) : (wh h R m rs memo)[m]? = some (.dK (mD memo)) := by
  unfold wh
  rw [List.getElem?_set_self (by rw [List.length_set]; exact hm)]
theorem wh_wh (hn : R ≠ m) : wh (wh h R m rs memo) R m rs' memo' = wh h R m rs' memo' := by
  have e : (wh h R m rs memo).set R (.lst (rs'.map dT)) = (h.set R (.lst (rs'.map dT))).set m (.dK (mD memo)) := by
    unfold wh
    rw [List.set_comm _ _ hn.symm, List.set_set]
  show ((wh h R m rs memo).set R _).set m _ = _
  rw [e, List.set_set]
  rfl
theorem wh_same (hR : h[R]? = some (.lst (rs.map dT))) (hm : h[m]? = some (.dK (mD memo))) : wh h R m rs memo = h := by
  unfold wh
  rw [set_id hR, set_id hm]
theorem wh_closed {k : Nat} : ∀ (n : Nat) (o : O), (wh h R m rs memo)[n]? = some o → h[n]? = some o ∨ clsdO k o = true := by
  intro n o e
  unfold wh at e
  by_cases hb : m = n
  · subst hb
    have hl := (List.getElem?_eq_some_iff.mp e).1
    rw [List.length_set] at hl
    rw [List.getElem?_set_self hl] at e
    cases e
    exact .inr (clsds_pure (mD_pure _))
  · rw [List.getElem?_set_ne hb] at e
    by_cases ha : R = n
    · subst ha
      have hl := (List.getElem?_eq_some_iff.mp e).1
      rw [List.length_set] at hl
      rw [List.getElem?_set_self hl] at e
      cases e
      exact .inr (clsds_pure (pure_T _))
    · rw [List.getElem?_set_ne ha] at e
      exact .inl e
theorem SAt.wh (S : SAt h s a b ns) (R1 : R ≠ s) (R2 : R ≠ a) (R3 : R ≠ b) (m1 : m ≠ s) (m2 : m ≠ a) (m3 : m ≠ b) : SAt (Cr.wh h R m rs memo) s a b ns := (S.upd R1 R2 R3).upd m1 m2 m3
end
def WriR (T : Tb) (fw M : Nat) (h : Hs) (s R m : Nat) (ns rs : List Nd) (memo : List (Nat × Nat)) (k L E : Nat) : Prop :=
  ∃ rs' memo', call T L fw [.ref s, dN k, .ref R, .ref m] h = some (.non, wh h R m rs' memo') ∧ Ext rs rs' ∧ Wf M rs' ∧ WrOk M ns rs' memo' ∧ (∃ v, memoG memo' k = some v) ∧ (∀ j v, memoG memo j = some v → ∃ v', memoG memo' j = some v') ∧ rs'.length + 1 ≤ rs.length + E ∧ memo'.length + 1 ≤ memo.length + E
theorem written_old {fw : Nat} (H : Has T fw (Bwri fw) 4 7 true) {M N : Nat} {h : Hs} {s R m : Nat} {ns rs : List Nd} {memo : List (Nat × Nat)} {k E : Nat} (hR : h[R]? = some (.lst (rs.map dT))) (hm : h[m]? = some (.dK (mD memo))) (WR : Wf M rs) (WO : WrOk M ns rs memo) {v : Nat} (hv : memoG memo k = some v) (hE : 1 ≤ E) : WriR T fw M h s R m ns rs memo k (N + 1) E := by
  refine ⟨rs, memo, ?_, Ext.refl _, WR, WO, ⟨v, hv⟩, fun j v e => ⟨v, e⟩, by omega, by omega⟩
  rw [wh_same hR hm]
  have et : evT (cn T N) (.cmp .In (.var 1) (.var 3)) [some (.ref s), some (dN k), some (.ref R), some (.ref m), none, none, none] h = some (true, h) := by
    simp only [exS, ev, evA, evO, evT, evC, evI_seq, evF_disp, evF_lst, evF_slk, evF_cat, cn_cf, startD, bltD, lenD, Cr.intD, tupleD, sumD, anyD, allD, absD, minD, maxD, gcdD, binD, cmpD, truD, idxD, isiD, mthD, isN, List.map_cons, List.map_nil, List.length_cons, List.length_nil, Option.bind_some, Option.map_some, List.set_cons_zero, List.set_cons_succ, List.getElem?_cons_zero, List.getElem?_cons_succ, List.replicate, List.cons_append, List.nil_append, List.append_nil, Nat.zero_add, Nat.add_one_sub_one, Nat.sub_self, putT, putS, if_true, and_self, sz0, sz1, sz2, sz3, sz5, sz6, wipeD, Nat.reduceAdd, Nat.reduceSub, in_m hm, hv]
    rfl
  refine H.rt (h' := h) (v := .non) rfl ⟨[some (.ref s), some (dN k), some (.ref R), some (.ref m), none, none, none], ?_⟩ (leave_same rfl)
  unfold Bwri
  exact exB_rt ((exS_ifT et).trans (exB_rt rfl))
theorem written_ok {fw : Nat} (H : Has T fw (Bwri fw) 4 7 true) (hF1 : T.fok 0 "nodes" = true) {M : Nat} : ∀ (d : Nat) {N : Nat} {h : Hs} {s a b R m : Nat} {ns rs : List Nd} {memo : List (Nat × Nat)} {k : Nat},
    d ≤ N → SAt h s a b ns → h[R]? = some (.lst (rs.map dT)) → h[m]? = some (.dK (mD memo)) → R ≠ s → R ≠ a → R ≠ b → m ≠ s → m ≠ a → m ≠ b → R ≠ m → Wf M ns → Wf M rs → WrOk M ns rs memo → k < ns.length + 2 → M ≤ plc M ns k + d → rs.length + 2 ^ d ≤ 50000 → memo.length + 2 ^ d ≤ 50000 → WriR T fw M h s R m ns rs memo k (N + 1) (2 ^ d) := by
  intro d
  induction d with
  | zero =>
    intro N h s a b R m ns rs memo k hN S hR hm R1 R2 R3 m1 m2 m3 hn W WR WO hk hp hs1 hs2
    have hk2 : k < 2 := by
      match k, hk, hp with
      | 0, _, _ => omega
      | 1, _, _ => omega
      | j + 2, hk, hp =>
        exfalso
        obtain ⟨⟨p, w, i⟩, e⟩ : ∃ r, ns[j]? = some r := ⟨_, List.getElem?_eq_getElem (by omega)⟩
        have := (W.ok j p w i e).1
        rw [plc_at, e] at hp
        have hp : M ≤ p + 0 := hp
        omega
    obtain ⟨v, hv⟩ := WO.lo k hk2
    exact written_old H hR hm WR WO hv (Nat.le_refl _)
  | succ d ih =>
    intro N h s a b R m ns rs memo k hN S hR hm R1 R2 R3 m1 m2 m3 hn W WR WO hk hp hs1 hs2
    have hpos := Nat.two_pow_pos d
    rw [Nat.pow_succ] at hs1 hs2 ⊢
    cases hg : memoG memo k with
    | some v => exact written_old H hR hm WR WO hg (by omega)
    | none =>
      have hk2 : ¬ k < 2 := fun z => by
        obtain ⟨v, hv⟩ := WO.lo k z
        rw [hg] at hv; cases hv
      obtain ⟨j, rfl⟩ : ∃ j, k = j + 2 := ⟨k - 2, by omega⟩
      obtain ⟨⟨p, w, i⟩, e⟩ : ∃ r, ns[j]? = some r := ⟨_, List.getElem?_eq_getElem (by omega)⟩
      obtain ⟨k1, k2, k3, k4, k5⟩ := W.ok j p w i e
      have hpl : plc M ns (j + 2) = p := by rw [plc_at, e]
      rw [hpl] at hp
      have hRl := (List.getElem?_eq_some_iff.mp hR).1
      have hml := (List.getElem?_eq_some_iff.mp hm).1
      obtain ⟨N, rfl⟩ : ∃ N', N = N' + 1 := ⟨N - 1, by omega⟩
      obtain ⟨rs1, memo1, c1, x1, w1, o1, ⟨v1, g1⟩, t1, z1, y1⟩ := ih (N := N) (by omega) S hR hm R1 R2 R3 m1 m2 m3 hn W WR WO (k := w) (by omega) (by omega) (by omega) (by omega)
      have S1 : SAt (wh h R m rs1 memo1) s a b ns := S.wh R1 R2 R3 m1 m2 m3
      obtain ⟨rs2, memo2, c2, x2, w2, o2, ⟨v2, g2⟩, t2, z2, y2⟩ := ih (N := N) (by omega) S1 (wh_R hRl hn) (wh_m hml) R1 R2 R3 m1 m2 m3 hn W w1 o1 (k := i) (by omega) (by omega) (by omega) (by omega)
      rw [wh_wh hn] at c2
      obtain ⟨v3, g3⟩ := t2 w v1 g1
      have S2 : SAt (wh h R m rs2 memo2) s a b ns := S.wh R1 R2 R3 m1 m2 m3
      obtain ⟨a1, a2, a3⟩ := o2.ok w v3 g3
      obtain ⟨b1, b2, b3⟩ := o2.ok i v2 g2
      have mw : Wf M (rs2 ++ [(p, v3, v2)]) := by
        refine ⟨fun j' q w' i' e => ?_⟩
        by_cases hj : j' < rs2.length
        · rw [List.getElem?_append_left hj] at e
          obtain ⟨k1, k2, k3, k4, k5⟩ := w2.ok j' q w' i' e
          exact ⟨k1, k2, k3, by rw [plc_app (by omega)]; exact k4, by rw [plc_app (by omega)]; exact k5⟩
        · have h5 := (List.getElem?_eq_some_iff.mp e).1
          rw [List.length_append, List.length_singleton] at h5
          have h6 : j' = rs2.length := by omega
          subst h6
          rw [List.getElem?_append_right (Nat.le_refl _), Nat.sub_self] at e
          cases e
          exact ⟨k1, a1, b1, by rw [plc_app a1]; omega, by rw [plc_app b1]; omega⟩
      have mx : Ext rs2 (rs2 ++ [(p, v3, v2)]) := ⟨_, rfl⟩
      have er : (rs2 ++ [(p, v3, v2)])[rs2.length]? = some (p, v3, v2) := by rw [List.getElem?_append_right (Nat.le_refl _), Nat.sub_self]; rfl
      have hWO : WrOk M ns (rs2 ++ [(p, v3, v2)]) (putM memo2 (j + 2) (rs2.length + 2)) := by
        refine ⟨fun k' r' hk' => ?_, fun k' hk' => ?_⟩
        · rw [memoG_put] at hk'
          split at hk'
          · rename_i ek
            subst ek
            cases hk'
            refine ⟨by rw [List.length_append, List.length_singleton]; omega, by rw [hpl, plc_at, er]; exact Nat.le_refl _, fun g => ?_⟩
            rw [sem_node mw er, sem_node W e, mx.sem w2 a1, mx.sem w2 b1, a3 g, b3 g]
          · exact (o2.ext w2 mx).ok k' r' hk'
        · obtain ⟨v, hv⟩ := o2.lo k' hk'
          refine ⟨v, ?_⟩
          rw [memoG_put, if_neg (by omega)]
          exact hv
      have pl := putM_len memo2 (j + 2) (rs2.length + 2)
      refine ⟨rs2 ++ [(p, v3, v2)], putM memo2 (j + 2) (rs2.length + 2), ?_, x1.trans (x2.trans mx), mw, hWO, ⟨_, by rw [memoG_put, if_pos rfl]⟩, fun j' v' hv' => ?_, by rw [List.length_append, List.length_singleton]; omega, by omega⟩
      rotate_left
      · obtain ⟨u, hu⟩ := t1 j' v' hv'
        obtain ⟨u', hu'⟩ := t2 j' u hu
        rw [memoG_put]
        by_cases ej : j' = j + 2
        · exact ⟨_, by rw [if_pos ej]⟩
        · exact ⟨u', by rw [if_neg ej]; exact hu'⟩
      refine H.nx (h' := wh h R m (rs2 ++ [(p, v3, v2)]) (putM memo2 (j + 2) (rs2.length + 2))) rfl ⟨[some (.ref s), some (dN (j + 2)), some (.ref R), some (.ref m), some (dN p), some (dN w), some (dN i)], ?_⟩ (leave_len wh_len rfl wh_closed)
      have et : evT (cn T (N + 1)) (.cmp .In (.var 1) (.var 3)) [some (.ref s), some (dN (j + 2)), some (.ref R), some (.ref m), none, none, none] h = some (false, h) := by
        simp only [exS, ev, evA, evO, evT, evC, evI_seq, evF_disp, evF_lst, evF_slk, evF_cat, cn_cf, startD, bltD, lenD, Cr.intD, tupleD, sumD, anyD, allD, absD, minD, maxD, gcdD, binD, cmpD, truD, idxD, isiD, mthD, isN, List.map_cons, List.map_nil, List.length_cons, List.length_nil, Option.bind_some, Option.map_some, List.set_cons_zero, List.set_cons_succ, List.getElem?_cons_zero, List.getElem?_cons_succ, List.replicate, List.cons_append, List.nil_append, List.append_nil, Nat.zero_add, Nat.add_one_sub_one, Nat.sub_self, putT, putS, if_true, and_self, sz0, sz1, sz2, sz3, sz5, sz6, wipeD, Nat.reduceAdd, Nat.reduceSub, in_m hm, hg]
        rfl
      have q1 : exS (cn T (N + 1)) (.setT [4, 5, 6] (.idx (.fld (.var 0) "nodes") (.var 1))) [some (.ref s), some (dN (j + 2)), some (.ref R), some (.ref m), none, none, none] h = some (.nx, [some (.ref s), some (dN (j + 2)), some (.ref R), some (.ref m), some (dN p), some (dN w), some (dN i)], h) := by
        simp only [exS, ev, evA, evO, evT, evC, evI_seq, evF_disp, evF_lst, evF_slk, evF_cat, cn_cf, startD, bltD, lenD, Cr.intD, tupleD, sumD, anyD, allD, absD, minD, maxD, gcdD, binD, cmpD, truD, idxD, isiD, mthD, isN, List.map_cons, List.map_nil, List.length_cons, List.length_nil, Option.bind_some, Option.map_some, List.set_cons_zero, List.set_cons_succ, List.getElem?_cons_zero, List.getElem?_cons_succ, List.replicate, List.cons_append, List.nil_append, List.append_nil, Nat.zero_add, Nat.add_one_sub_one, Nat.sub_self, putT, putS, if_true, and_self, sz0, sz1, sz2, sz3, sz5, sz6, wipeD, Nat.reduceAdd, Nat.reduceSub, cn_fok, fld_nodes hF1 S, dN, S.a, at_n e, dT]
      refine exB_step ((exS_ifF et).trans exB_nil) (exB_step q1 (exB_step (exS_exp ((ev_mcl (d := .ref s) (ds := [dN w, .ref R, .ref m]) (h2 := h) rfl (ins_no S (by decide +kernel)) rfl).trans c1)) (exB_step (exS_exp ((ev_mcl (d := .ref s) (ds := [dN i, .ref R, .ref m]) (h2 := wh h R m rs1 memo1) rfl (ins_no S1 (by decide +kernel)) rfl).trans c2)) (exB_step (h1 := wh h R m (rs2 ++ [(p, v3, v2)]) memo2) (ev_app (n := R) (xs := rs2.map dT) (ys := rs2.map dT) (d := dT (p, v3, v2)) (h1 := wh h R m rs2 memo2) (h2 := wh h R m rs2 memo2) rfl (wh_R hRl hn) ?_ (wh_R hRl hn) ?_ ?_) (exB_step ?_ exB_nil)))))
      · exact ev_tup (evA_cons (d := dN p) (h1 := wh h R m rs2 memo2) rfl (evA_cons (ev_idx rfl rfl (idx_m (wh_m hml) g3)) (evA_one (ev_idx rfl rfl (idx_m (wh_m hml) g2))))) (sz_le (by simp))
      · have := sz_le (show (rs2.map dT).length + 1 ≤ 1000000 by rw [List.length_map]; omega)
        omega
      · have : (rs2 ++ [(p, v3, v2)]).map dT = rs2.map dT ++ [dT (p, v3, v2)] := by rw [List.map_append]; rfl
        unfold wh
        rw [List.set_comm _ _ hn.symm, List.set_set, this]
      · have e1 : ev (cn T (N + 1)) (.bin .Add (.blt .len (.cons (.var 2) .nil)) (.cst (.int 1))) [some (.ref s), some (dN (j + 2)), some (.ref R), some (.ref m), some (dN p), some (dN w), some (dN i)] (wh h R m (rs2 ++ [(p, v3, v2)]) memo2) = some (dN (rs2.length + 2), wh h R m (rs2 ++ [(p, v3, v2)]) memo2) := by
          have hl : (((rs2 ++ [(p, v3, v2)]).map dT).length : Int) + 1 = ((rs2.length + 2 : Nat) : Int) := by
            rw [List.length_map, List.length_append, List.length_singleton]
            omega
          have hR' : (wh h R m (rs2 ++ [(p, v3, v2)]) memo2)[R]? = some (.lst ((rs2 ++ [(p, v3, v2)]).map dT)) := wh_R hRl hn
          simp only [exS, ev, evA, evO, evT, evC, evI_seq, evF_disp, evF_lst, evF_slk, evF_cat, cn_cf, startD, bltD, lenD, Cr.intD, tupleD, sumD, anyD, allD, absD, minD, maxD, gcdD, binD, cmpD, truD, idxD, isiD, mthD, isN, List.map_cons, List.map_nil, List.length_cons, List.length_nil, Option.bind_some, Option.map_some, List.set_cons_zero, List.set_cons_succ, List.getElem?_cons_zero, List.getElem?_cons_succ, List.replicate, List.cons_append, List.nil_append, List.append_nil, Nat.zero_add, Nat.add_one_sub_one, Nat.sub_self, putT, putS, if_true, and_self, sz0, sz1, sz2, sz3, sz5, sz6, wipeD, Nat.reduceAdd, Nat.reduceSub, seqOf, hR', hl]
          rfl
        have es : setD (wh h R m (rs2 ++ [(p, v3, v2)]) memo2) (.ref m) (dN (j + 2)) (dN (rs2.length + 2)) = some (wh h R m (rs2 ++ [(p, v3, v2)]) (putM memo2 (j + 2) (rs2.length + 2))) := by
          have hz : (mD memo2).length < sizeLine := by rw [mD_len]; have := sz_le (show memo2.length + 1 ≤ 1000000 by omega); omega
          have hm' : (wh h R m (rs2 ++ [(p, v3, v2)]) memo2)[m]? = some (.dK (mD memo2)) := wh_m hml
          have ek : keyD (dN (j + 2)) = some (.inl ((j + 2 : Nat) : Int)) := rfl
          simp only [setD, hm', dputD, ek, Option.bind_some, if_pos hz, mD_put]
          unfold wh
          rw [List.set_set]
        show ((ev (cn T (N + 1)) (.bin .Add (.blt .len (.cons (.var 2) .nil)) (.cst (.int 1))) _ _).bind fun p => _) = _
        rw [e1]
        simp only [exS, ev, evA, evO, evT, evC, evI_seq, evF_disp, evF_lst, evF_slk, evF_cat, cn_cf, startD, bltD, lenD, Cr.intD, tupleD, sumD, anyD, allD, absD, minD, maxD, gcdD, binD, cmpD, truD, idxD, isiD, mthD, isN, List.map_cons, List.map_nil, List.length_cons, List.length_nil, Option.bind_some, Option.map_some, List.set_cons_zero, List.set_cons_succ, List.getElem?_cons_zero, List.getElem?_cons_succ, List.replicate, List.cons_append, List.nil_append, List.append_nil, Nat.zero_add, Nat.add_one_sub_one, Nat.sub_self, putT, putS, if_true, and_self, sz0, sz1, sz2, sz3, sz5, sz6, wipeD, Nat.reduceAdd, Nat.reduceSub, es]
def Btold (fw : Nat) : CB := (.cons (.set 2 (.bx (.disp .nil))) (.cons (.set 3 (.dlt [(0, 0), (1, 1)])) (.cons (.exp (.mcl 0 "written" fw (.var 0) (.cons (.var 1) (.cons (.var 2) (.cons (.var 3) .nil))))) (.cons (.ret (.tup (.cons (.blt .tuple (.cons (.var 2) .nil)) (.cons (.idx (.var 3) (.var 1)) .nil)))) .nil))))
theorem told_ok {f fw : Nat} (H : Has T f (Btold fw) 2 4 true) (Hw : Has T fw (Bwri fw) 4 7 true) (hF1 : T.fok 0 "nodes" = true) {M N : Nat} (hM : M ≤ N) {h : Hs} {s a b : Nat} {ns : List Nd} {k : Nat} (S : SAt h s a b ns) (W : Wf M ns) (hk : k < ns.length + 2) (hsz : 2 ^ M ≤ 40000) :
    ∃ rs v, call T (N + 2) f [.ref s, dN k] h = some (dC rs v, h) ∧ Wf M rs ∧ v < rs.length + 2 ∧ (∀ g, sem rs g v = sem ns g k) ∧ rs.length + 1 ≤ 2 ^ M := by
  obtain ⟨l1, l2, l3⟩ := S.la
  have S1 : SAt (h ++ [O.lst [], .dK (mD [(0, 0), (1, 1)])]) s a b ns := S.app _
  have W0 : Wf M ([] : List Nd) := ⟨fun j p w i e => by simp at e⟩
  have WO : WrOk M ns [] [(0, 0), (1, 1)] := by
    refine ⟨fun k v e => ?_, fun k hk => ?_⟩
    · match k, e with
      | 0, e => cases e; exact ⟨by decide, Nat.le_refl _, fun _ => rfl⟩
      | 1, e => cases e; exact ⟨by decide, Nat.le_refl _, fun _ => rfl⟩
      | k + 2, e => simp [memoG, List.find?_cons] at e
    · have : k = 0 ∨ k = 1 := by omega
      rcases this with rfl | rfl
      · exact ⟨0, rfl⟩
      · exact ⟨1, rfl⟩
  obtain ⟨rs, memo, c, x, w, o, ⟨v, g⟩, _, z, _⟩ := written_ok Hw hF1 (M := M) M (N := N) (k := k) (rs := []) (R := h.length) (m := h.length + 1) hM S1 (getA (k := 0)) (getA (k := 1)) (by omega) (by omega) (by omega) (by omega) (by omega) (by omega) (by omega) W W0 WO hk (by omega) (by show 0 + 2 ^ M ≤ 50000; omega) (by show 2 + 2 ^ M ≤ 50000; omega)
  have ewh : wh (h ++ [O.lst [], .dK (mD [(0, 0), (1, 1)])]) h.length (h.length + 1) rs memo = h ++ [O.lst (rs.map dT), .dK (mD memo)] := by
    unfold wh
    rw [setA0, setA]
    rfl
  rw [ewh] at c
  obtain ⟨o1, o2, o3⟩ := o.ok k v g
  refine ⟨rs, v, H.rt (h' := h ++ [O.lst (rs.map dT), .dK (mD memo)]) (v := dC rs v) rfl ⟨[some (.ref s), some (dN k), some (.ref h.length), some (.ref (h.length + 1))], ?_⟩ (leave_pure (pure_C rs v)), w, o1, o3, by simpa using z⟩
  have gR : (h ++ [O.lst (rs.map dT), .dK (mD memo)])[h.length]? = some (.lst (rs.map dT)) := getA (k := 0)
  have gm : (h ++ [O.lst (rs.map dT), .dK (mD memo)])[h.length + 1]? = some (.dK (mD memo)) := getA (k := 1)
  refine exB_step (se1 := [some (.ref s), some (dN k), some (.ref h.length), none]) (h1 := h ++ [O.lst []]) (exS_set (ev_bx rfl)) (exB_step (se1 := [some (.ref s), some (dN k), some (.ref h.length), some (.ref (h.length + 1))]) (h1 := h ++ [O.lst [], .dK (mD [(0, 0), (1, 1)])]) (exS_set ?_) (exB_step (exS_exp ((ev_mcl (d := .ref s) (ds := [dN k, .ref h.length, .ref (h.length + 1)]) (h2 := h ++ [O.lst [], .dK (mD [(0, 0), (1, 1)])]) rfl (ins_no S1 (by decide +kernel)) rfl).trans c)) (exB_rt (exS_ret ?_))))
  · show some (D.ref (h ++ [O.lst []]).length, (h ++ [O.lst []]) ++ [O.dK (dltD [(0, 0), (1, 1)])]) = _
    rw [List.length_append, List.append_assoc]
    rfl
  · refine ev_tup (evA_cons (d := .tup (rs.map dT)) (h1 := h ++ [O.lst (rs.map dT), .dK (mD memo)]) (ev_blt (evA_one (d := .ref h.length) (h1 := h ++ [O.lst (rs.map dT), .dK (mD memo)]) rfl) ?_) (evA_one (ev_idx rfl rfl (idx_m gm g)))) (sz_le (by simp))
    simp only [bltD, tupleD, lstOf, gR, Option.map_some]
end
end Cr
/-! The store 14: variable, negation, both. -/
namespace Cr
open PySem PySem.Spec PyProof.Rows L2
section
variable {T : Tb}
def Bvar : CB := (.cons (.ret (.tup (.cons (.tup (.cons (.tup (.cons (.var 0) (.cons (.cst (.int 0)) (.cons (.cst (.int 1)) .nil)))) .nil)) (.cons (.cst (.int 2)) .nil)))) .nil)
theorem variable_ok {f n : Nat} (H : Has T f Bvar 1 1 true) {h : Hs} (p : Nat) : call T (n + 1) f [dN p] h = some (dC [(p, 0, 1)] 2, h) := by
  refine H.rt rfl ⟨[some (dN p)], ?_⟩ (leave_same (d := dC [(p, 0, 1)] 2) rfl)
  unfold Bvar
  refine exB_rt (exS_ret ?_)
  simp only [exS, ev, evA, evO, evT, evC, evI_seq, evF_disp, evF_lst, evF_slk, evF_cat, cn_cf, startD, bltD, lenD, Cr.intD, tupleD, sumD, anyD, allD, absD, minD, maxD, gcdD, binD, cmpD, truD, idxD, isiD, mthD, isN, List.map_cons, List.map_nil, List.length_cons, List.length_nil, Option.bind_some, Option.map_some, List.set_cons_zero, List.set_cons_succ, List.getElem?_cons_zero, List.getElem?_cons_succ, List.replicate, List.cons_append, List.nil_append, List.append_nil, Nat.zero_add, Nat.add_one_sub_one, Nat.sub_self, putT, putS, if_true, and_self, sz0, sz1, sz2, sz3, sz5, sz6, wipeD, Nat.reduceAdd, Nat.reduceSub]
  rfl
theorem variable_wf {M p : Nat} (h : p < M) : Wf M [(p, 0, 1)] := ⟨fun j q w i e => by
  match j, e with
  | 0, e => cases e; exact ⟨h, by omega, by omega, h, h⟩
  | j + 1, e => simp at e⟩
theorem variable_sem {p : Nat} (g : Nat → Bool) : sem [(p, 0, 1)] g 2 = g p := by
  show (if g p then true else false) = g p
  cases g p <;> rfl
/-- the store's defs, by their numbers -/
structure StH (T : Tb) (fi fm ft fs fg fj fno fa ftk ftd fw : Nat) : Prop where
  hi : Has T fi Binit 1 1 false
  hm : Has T fm Bmake 4 5 true
  ht : Has T ft Btop 3 3 true
  hs : Has T fs Bside 4 4 true
  hg : Has T fg (Bneg fm fg) 3 6 true
  hj : Has T fj (Bjoin ft fs fj fm) 4 8 true
  hno : Has T fno (Bno fg) 2 2 true
  ha : Has T fa (Band fj) 3 3 true
  htk : Has T ftk (Btak fm) 2 6 true
  htd : Has T ftd (Btold fw) 2 4 true
  hw : Has T fw (Bwri fw) 4 7 true
  ini : T.ini 0 = some fi
  f1 : T.fok 0 "nodes" = true
  f2 : T.fok 0 "places" = true
def Bnegation (ftd fno ftk : Nat) : CB := (.cons (.set 1 (.new 0)) (.cons (.ret (.mcl 0 "told" ftd (.var 1) (.cons (.mcl 0 "no" fno (.var 1) (.cons (.mcl 0 "taken_in" ftk (.var 1) (.cons (.var 0) .nil)) .nil)) .nil))) .nil))
def Bboth (ftd fa ftk : Nat) : CB := (.cons (.set 2 (.new 0)) (.cons (.ret (.mcl 0 "told" ftd (.var 2) (.cons (.mcl 0 "and_also" fa (.var 2) (.cons (.mcl 0 "taken_in" ftk (.var 2) (.cons (.var 0) .nil)) (.cons (.mcl 0 "taken_in" ftk (.var 2) (.cons (.var 1) .nil)) .nil))) .nil))) .nil))
theorem sth_new {h : Hs} {ns : List Nd} : ∃ ex, sth (h ++ newS h.length) (h.length + 1) (h.length + 2) ns = h ++ ex := by
  unfold sth
  rw [setA, setA]
  exact ⟨_, rfl⟩
variable {fi fm ft fs fg fj fno fa ftk ftd fw : Nat}
theorem negation_ok (SH : StH T fi fm ft fs fg fj fno fa ftk ftd fw) {f : Nat} (H : Has T f (Bnegation ftd fno ftk) 1 2 true) {M N : Nat} (hM : M ≤ N) {h : Hs} {rs : List Nd} {k : Nat} (W : Wf M rs) (hk : k < rs.length + 2) (hsz : rs.length + 2 ^ M ≤ 30000) :
    ∃ rs' v, call T (N + 4) f [dC rs k] h = some (dC rs' v, h) ∧ Wf M rs' ∧ v < rs'.length + 2 ∧ (∀ g, sem rs' g v = !sem rs g k) ∧ rs'.length + 1 ≤ 2 ^ M := by
  have hp := Nat.two_pow_pos M
  have S0 : SAt (h ++ newS h.length) h.length (h.length + 1) (h.length + 2) [] := newS_at
  have W0 : Wf M ([] : List Nd) := ⟨fun j p w i e => by simp at e⟩
  obtain ⟨ns1, r1, c1, x1, w1, v1, s1, z1⟩ := taken_ok (n := N + 1) SH.htk SH.hm SH.f1 SH.f2 S0 W0 W hk (by show 0 + rs.length ≤ 40000; have := Nat.two_pow_pos M; omega)
  have z1 : ns1.length + 1 ≤ 0 + (rs.length + 1) := z1
  have S1 := S0.to ns1
  obtain ⟨ns2, r2, c2, x2, w2, v2, s2, z2⟩ := no_ok (N := N) SH.hno SH.hg SH.hm SH.f1 SH.f2 hM S1 w1 v1 (by omega)
  rw [sth_sth S0.ne.1] at c2
  have S2 := S0.to ns2
  obtain ⟨rs', v, c3, w3, v3, s3, z3⟩ := told_ok (N := N + 1) SH.htd SH.hw SH.f1 (by omega) S2 w2 v2 (by omega)
  refine ⟨rs', v, H.rt (h' := sth (h ++ newS h.length) (h.length + 1) (h.length + 2) ns2) (v := dC rs' v) rfl ⟨[some (dC rs k), some (.ref h.length)], ?_⟩ ?_, w3, v3, fun g => by rw [s3 g, s2 g]; show (!sem ns1 g r1) = _; rw [s1 g], z3⟩
  · refine exB_step (exS_set (new_ok SH.hi SH.ini SH.f1 SH.f2)) (exB_rt (exS_ret ?_))
    exact ((ev_mcl (d := .ref h.length) (ds := [dN r2]) (h2 := sth (h ++ newS h.length) (h.length + 1) (h.length + 2) ns2) rfl (ins_no S0 (by decide +kernel)) (evA_one ((ev_mcl (d := .ref h.length) (ds := [dN r1]) (h2 := sth (h ++ newS h.length) (h.length + 1) (h.length + 2) ns1) rfl (ins_no S0 (by decide +kernel)) (evA_one ((ev_mcl (d := .ref h.length) (ds := [dC rs k]) (h2 := h ++ newS h.length) rfl (ins_no S0 (by decide +kernel)) rfl).trans c1))).trans c2))).trans c3)
  · obtain ⟨ex, e⟩ := sth_new (h := h) (ns := ns2)
    rw [e]
    exact leave_pure (pure_C rs' v)
theorem both_ok (SH : StH T fi fm ft fs fg fj fno fa ftk ftd fw) {f : Nat} (H : Has T f (Bboth ftd fa ftk) 2 3 true) {M N : Nat} (hM : M ≤ N) {h : Hs} {rs qs : List Nd} {k l : Nat} (W : Wf M rs) (hk : k < rs.length + 2) (W' : Wf M qs) (hl : l < qs.length + 2) (hsz : rs.length + qs.length + 2 ^ M ≤ 30000) :
    ∃ rs' v, call T (N + 4) f [dC rs k, dC qs l] h = some (dC rs' v, h) ∧ Wf M rs' ∧ v < rs'.length + 2 ∧ (∀ g, sem rs' g v = (sem rs g k && sem qs g l)) ∧ rs'.length + 1 ≤ 2 ^ M := by
  have hp := Nat.two_pow_pos M
  have S0 : SAt (h ++ newS h.length) h.length (h.length + 1) (h.length + 2) [] := newS_at
  have W0 : Wf M ([] : List Nd) := ⟨fun j p w i e => by simp at e⟩
  have nn := S0.ne.1
  obtain ⟨ns1, r1, c1, x1, w1, v1, s1, z1⟩ := taken_ok (n := N + 1) SH.htk SH.hm SH.f1 SH.f2 S0 W0 W hk (by show 0 + rs.length ≤ 40000; have := Nat.two_pow_pos M; omega)
  have z1 : ns1.length + 1 ≤ 0 + (rs.length + 1) := z1
  have S1 := S0.to ns1
  obtain ⟨ns4, r4, c4, x4, w4, v4, s4, z4⟩ := taken_ok (n := N + 1) SH.htk SH.hm SH.f1 SH.f2 S1 w1 W' hl (by omega)
  rw [sth_sth nn] at c4
  have S4 := S0.to ns4
  have l4 := x4.len
  obtain ⟨ns2, r2, c2, x2, w2, v2, s2, z2⟩ := and_ok (N := N) SH.ha SH.hj SH.ht SH.hs SH.hm SH.f1 SH.f2 hM S4 w4 (k := r1) (j := r4) (by omega) v4 (by omega)
  rw [sth_sth nn] at c2
  have S2 := S0.to ns2
  obtain ⟨rs', v, c3, w3, v3, s3, z3⟩ := told_ok (N := N + 1) SH.htd SH.hw SH.f1 (by omega) S2 w2 v2 (by omega)
  refine ⟨rs', v, H.rt (h' := sth (h ++ newS h.length) (h.length + 1) (h.length + 2) ns2) (v := dC rs' v) rfl ⟨[some (dC rs k), some (dC qs l), some (.ref h.length)], ?_⟩ ?_, w3, v3, fun g => by rw [s3 g, s2 g]; show (sem ns4 g r1 && sem ns4 g r4) = _; rw [x4.sem w1 v1, s1 g, s4 g], z3⟩
  · refine exB_step (exS_set (new_ok SH.hi SH.ini SH.f1 SH.f2)) (exB_rt (exS_ret ?_))
    exact ((ev_mcl (d := .ref h.length) (ds := [dN r2]) (h2 := sth (h ++ newS h.length) (h.length + 1) (h.length + 2) ns2) rfl (ins_no S0 (by decide +kernel)) (evA_one ((ev_mcl (d := .ref h.length) (ds := [dN r1, dN r4]) (h2 := sth (h ++ newS h.length) (h.length + 1) (h.length + 2) ns4) rfl (ins_no S0 (by decide +kernel)) (evA_cons ((ev_mcl (d := .ref h.length) (ds := [dC rs k]) (h2 := h ++ newS h.length) rfl (ins_no S0 (by decide +kernel)) rfl).trans c1) (evA_one ((ev_mcl (d := .ref h.length) (ds := [dC qs l]) (h2 := sth (h ++ newS h.length) (h.length + 1) (h.length + 2) ns1) rfl (ins_no S1 (by decide +kernel)) rfl).trans c4)))).trans c2))).trans c3)
  · obtain ⟨ex, e⟩ := sth_new (h := h) (ns := ns2)
    rw [e]
    exact leave_pure (pure_C rs' v)
end
end Cr
/-! The cases in which a condition says what is wanted. -/
namespace Cr
open PySem PySem.Spec PyProof.Rows L2
section
variable {T : Tb} {n : Nat} {h : Hs}
def caseW (rows : List (List Nat)) (cs : List Nat) (want : Bool) (need s : List Nat) : Nat := if (holdsB rows s == want) && insideB need s then wtP cs s cs.length else 0
def casesW (rows : List (List Nat)) (cs : List Nat) (want : Bool) (need : List Nat) : Nat := ((subsF (List.range cs.length)).map (caseW rows cs want need)).sum
theorem cases_loopW {fi fh : Nat} (Hi : Has T fi Binside 2 3 true) (Hh : Has T fh (Bholds fi) 2 3 true) {rows : List (List Nat)} {cs need : List Nat} {want : Bool} (hc : ∀ c ∈ cs, c ≤ 1000) (hl : cs.length ≤ 5)
    (hr : ∀ r ∈ rows, r.length ≤ 1000) (hrl : rows.length ≤ 1000) (hn : need.length ≤ 1000) : ∃ x5 x6 x7 : Option D, forD (fun _ => True) (.nm 5) (exB (cn T (n + 2)) (Lcases fi fh)) ((subsF (List.range cs.length)).map dS) [some (.lst (rows.map dS)), some (dS cs), some (.bl want), some (dS need), some (.int 0), none, none, none] h =
    some (.nx, [some (.lst (rows.map dS)), some (dS cs), some (.bl want), some (dS need), some (dN (casesW rows cs want need)), x5, x6, x7], h) := by
  obtain ⟨se', h', e1, x5, x6, x7, e2, e3⟩ := forD_run (st := fun _ => True) (tg := .nm 5) (b := exB (cn T (n + 2)) (Lcases fi fh)) (xs := (subsF (List.range cs.length)).map dS)
    (fun i se h' => ∃ x5 x6 x7 : Option D, se = [some (.lst (rows.map dS)), some (dS cs), some (.bl want), some (dS need), some (dN (((subsF (List.range cs.length)).take i).map (caseW rows cs want need)).sum), x5, x6, x7] ∧ h' = h)
    (se := [some (.lst (rows.map dS)), some (dS cs), some (.bl want), some (dS need), some (.int 0), none, none, none]) (h := h) ⟨none, none, none, rfl, rfl⟩ (fun _ _ _ _ => trivial) (by
      rintro i x se h' ex ⟨x5, x6, x7, rfl, e⟩
      subst e
      rw [List.getElem?_map] at ex
      obtain ⟨s, er, rfl⟩ := Option.map_eq_some_iff.mp ex
      have c1 : call T (n + 2) fh [.lst (rows.map dS), dS s] h' = some (.bl (holdsB rows s), h') := holds_ok (n := n) Hh Hi (.inl rfl) (fun r q => sz_le (by have := hr r q; omega)) (sz_le (by omega))
      have c2 : call T (n + 2) fi [dS need, dS s] h' = some (.bl (insideB need s), h') := inside_ok (n := n + 1) Hi (.inl rfl) (sz_le (by omega))
      have es : ((((subsF (List.range cs.length)).take (i + 1)).map (caseW rows cs want need)).sum) = (((subsF (List.range cs.length)).take i).map (caseW rows cs want need)).sum + caseW rows cs want need s := by
        rw [take_snoc er, List.map_append]
        exact sum_snoc _ _
      rw [es]
      generalize ((((subsF (List.range cs.length)).take i).map (caseW rows cs want need)).sum) = tot
      have q1 : ∀ b : Bool, eqD h' (.bl b) (.bl want) = some (b == want) := fun b => by cases b <;> cases want <;> rfl
      have hin : ∀ b : Bool, truD h' (.bl b) = some b := fun b => rfl
      unfold caseW
      by_cases hh : ((holdsB rows s == want) && insideB need s) = true
      · rw [if_pos hh]
        rw [Bool.and_eq_true] at hh
        obtain ⟨x7', ew⟩ := weight_ok (T := T) (n := n + 2) (h := h') (x0 := some (.lst (rows.map dS))) (x2 := some (.bl want)) (x3 := some (dS need)) (x4 := some (dN tot)) (x7 := x7) (cs := cs) (s := s) hc (by omega)
        refine ⟨[some (.lst (rows.map dS)), some (dS cs), some (.bl want), some (dS need), some (dN tot), some (dS s), x6, x7], [some (.lst (rows.map dS)), some (dS cs), some (.bl want), some (dS need), some (dN (tot + wtP cs s cs.length)), some (dS s), some (dN (wtP cs s cs.length)), x7'], h', rfl, ?_, _, _, _, rfl, rfl⟩
        have e6 : dN (tot + wtP cs s cs.length) = .int ((tot : Int) + (wtP cs s cs.length : Int)) := by unfold dN; rw [Int.natCast_add]
        rw [e6]
        have eb : exB (cn T (n + 2)) (.cons (.set 6 (.cst (.int 1))) (.cons (.for_ (.nm 7) (.rng1 (.blt .len (.cons (.var 1) .nil))) Lw) (.cons (.set 4 (.bin .Add (.var 4) (.var 6))) .nil))) [some (.lst (rows.map dS)), some (dS cs), some (.bl want), some (dS need), some (dN tot), some (dS s), x6, x7] h' =
            some (.nx, [some (.lst (rows.map dS)), some (dS cs), some (.bl want), some (dS need), some (.int ((tot : Int) + (wtP cs s cs.length : Int))), some (dS s), some (dN (wtP cs s cs.length)), x7'], h') := by
          rw [exB_cons (se1 := [some (.lst (rows.map dS)), some (dS cs), some (.bl want), some (dS need), some (dN tot), some (dS s), some (.int 1), x7]) (h1 := h') (by simp only [exS, ev, evA, evO, evT, evC, evI_seq, evF_disp, evF_lst, evF_slk, evF_cat, cn_cf, startD, bltD, lenD, Cr.intD, tupleD, sumD, anyD, allD, absD, minD, maxD, gcdD, binD, cmpD, truD, idxD, isiD, mthD, isN, List.map_cons, List.map_nil, List.length_cons, List.length_nil, Option.bind_some, Option.map_some, List.set_cons_zero, List.set_cons_succ, List.getElem?_cons_zero, List.getElem?_cons_succ, List.replicate, List.cons_append, List.nil_append, List.append_nil, Nat.zero_add, Nat.add_one_sub_one, Nat.sub_self, putT, putS, if_true, and_self, sz0, sz1, sz2, sz3, sz5, sz6, wipeD, Nat.reduceAdd, Nat.reduceSub])]
          rw [exB_cons ew]
          simp only [exB, exS, ev, evA, evO, evT, evC, evI_seq, evF_disp, evF_lst, evF_slk, evF_cat, cn_cf, startD, bltD, lenD, Cr.intD, tupleD, sumD, anyD, allD, absD, minD, maxD, gcdD, binD, cmpD, truD, idxD, isiD, mthD, isN, List.map_cons, List.map_nil, List.length_cons, List.length_nil, Option.bind_some, Option.map_some, List.set_cons_zero, List.set_cons_succ, List.getElem?_cons_zero, List.getElem?_cons_succ, List.replicate, List.cons_append, List.nil_append, List.append_nil, Nat.zero_add, Nat.add_one_sub_one, Nat.sub_self, putT, putS, if_true, and_self, sz0, sz1, sz2, sz3, sz5, sz6, wipeD, Nat.reduceAdd, Nat.reduceSub, dN]
        rw [Lcases, exB_cons (se1 := [some (.lst (rows.map dS)), some (dS cs), some (.bl want), some (dS need), some (.int ((tot : Int) + (wtP cs s cs.length : Int))), some (dS s), some (dN (wtP cs s cs.length)), x7']) (h1 := h') ((exS_ifT (evT_andT (h1 := h') (h2 := h') (by simp only [exS, ev, evA, evO, evT, evC, evI_seq, evF_disp, evF_lst, evF_slk, evF_cat, cn_cf, startD, bltD, lenD, Cr.intD, tupleD, sumD, anyD, allD, absD, minD, maxD, gcdD, binD, cmpD, truD, idxD, isiD, mthD, isN, List.map_cons, List.map_nil, List.length_cons, List.length_nil, Option.bind_some, Option.map_some, List.set_cons_zero, List.set_cons_succ, List.getElem?_cons_zero, List.getElem?_cons_succ, List.replicate, List.cons_append, List.nil_append, List.append_nil, Nat.zero_add, Nat.add_one_sub_one, Nat.sub_self, putT, putS, if_true, and_self, sz0, sz1, sz2, sz3, sz5, sz6, wipeD, Nat.reduceAdd, Nat.reduceSub, c1, q1, hh.1]) (by simp only [exS, ev, evA, evO, evT, evC, evI_seq, evF_disp, evF_lst, evF_slk, evF_cat, cn_cf, startD, bltD, lenD, Cr.intD, tupleD, sumD, anyD, allD, absD, minD, maxD, gcdD, binD, cmpD, truD, idxD, isiD, mthD, isN, List.map_cons, List.map_nil, List.length_cons, List.length_nil, Option.bind_some, Option.map_some, List.set_cons_zero, List.set_cons_succ, List.getElem?_cons_zero, List.getElem?_cons_succ, List.replicate, List.cons_append, List.nil_append, List.append_nil, Nat.zero_add, Nat.add_one_sub_one, Nat.sub_self, putT, putS, if_true, and_self, sz0, sz1, sz2, sz3, sz5, sz6, wipeD, Nat.reduceAdd, Nat.reduceSub, c2, hh.2]))).trans eb)]
        exact exB_nil
      · rw [if_neg hh]
        refine ⟨[some (.lst (rows.map dS)), some (dS cs), some (.bl want), some (dS need), some (dN tot), some (dS s), x6, x7], [some (.lst (rows.map dS)), some (dS cs), some (.bl want), some (dS need), some (dN (tot + 0)), some (dS s), x6, x7], h', rfl, ?_, _, _, _, rfl, rfl⟩
        rw [Nat.add_zero, Lcases]
        rw [exB_cons (se1 := [some (.lst (rows.map dS)), some (dS cs), some (.bl want), some (dS need), some (dN tot), some (dS s), x6, x7]) (h1 := h') ((exS_ifF (h1 := h') (by
          cases hx : (holdsB rows s == want) with
          | false => exact evT_andF (by simp only [exS, ev, evA, evO, evT, evC, evI_seq, evF_disp, evF_lst, evF_slk, evF_cat, cn_cf, startD, bltD, lenD, Cr.intD, tupleD, sumD, anyD, allD, absD, minD, maxD, gcdD, binD, cmpD, truD, idxD, isiD, mthD, isN, List.map_cons, List.map_nil, List.length_cons, List.length_nil, Option.bind_some, Option.map_some, List.set_cons_zero, List.set_cons_succ, List.getElem?_cons_zero, List.getElem?_cons_succ, List.replicate, List.cons_append, List.nil_append, List.append_nil, Nat.zero_add, Nat.add_one_sub_one, Nat.sub_self, putT, putS, if_true, and_self, sz0, sz1, sz2, sz3, sz5, sz6, wipeD, Nat.reduceAdd, Nat.reduceSub, c1, q1, hx])
          | true =>
            cases hy : insideB need s with
            | false => exact evT_andT (h1 := h') (by simp only [exS, ev, evA, evO, evT, evC, evI_seq, evF_disp, evF_lst, evF_slk, evF_cat, cn_cf, startD, bltD, lenD, Cr.intD, tupleD, sumD, anyD, allD, absD, minD, maxD, gcdD, binD, cmpD, truD, idxD, isiD, mthD, isN, List.map_cons, List.map_nil, List.length_cons, List.length_nil, Option.bind_some, Option.map_some, List.set_cons_zero, List.set_cons_succ, List.getElem?_cons_zero, List.getElem?_cons_succ, List.replicate, List.cons_append, List.nil_append, List.append_nil, Nat.zero_add, Nat.add_one_sub_one, Nat.sub_self, putT, putS, if_true, and_self, sz0, sz1, sz2, sz3, sz5, sz6, wipeD, Nat.reduceAdd, Nat.reduceSub, c1, q1, hx]) (by simp only [exS, ev, evA, evO, evT, evC, evI_seq, evF_disp, evF_lst, evF_slk, evF_cat, cn_cf, startD, bltD, lenD, Cr.intD, tupleD, sumD, anyD, allD, absD, minD, maxD, gcdD, binD, cmpD, truD, idxD, isiD, mthD, isN, List.map_cons, List.map_nil, List.length_cons, List.length_nil, Option.bind_some, Option.map_some, List.set_cons_zero, List.set_cons_succ, List.getElem?_cons_zero, List.getElem?_cons_succ, List.replicate, List.cons_append, List.nil_append, List.append_nil, Nat.zero_add, Nat.add_one_sub_one, Nat.sub_self, putT, putS, if_true, and_self, sz0, sz1, sz2, sz3, sz5, sz6, wipeD, Nat.reduceAdd, Nat.reduceSub, c2, hy])
            | true => rw [hx, hy] at hh; exact absurd rfl hh)).trans exB_nil)]
        exact exB_nil)
  subst e2 e3
  rw [List.length_map, List.take_length] at e1
  exact ⟨x5, x6, x7, e1⟩
theorem cases_okW {f fs fi fh : Nat} (H : Has T f (Bcases fs fi fh) 4 8 true) (Hs' : Has T fs Bsubsets 1 5 true) (Hi : Has T fi Binside 2 3 true) (Hh : Has T fh (Bholds fi) 2 3 true) {rows : List (List Nat)} {cs need : List Nat} {want : Bool} (hc : ∀ c ∈ cs, c ≤ 1000) (hl : cs.length ≤ 5)
    (hr : ∀ r ∈ rows, r.length ≤ 1000) (hrl : rows.length ≤ 1000) (hn : need.length ≤ 1000) : call T (n + 3) f [.lst (rows.map dS), dS cs, .bl want, dS need] h = some (dN (casesW rows cs want need), h) := by
  have hsub : call T (n + 2) fs [dS (List.range cs.length)] h = some (.lst ((subsF (List.range cs.length)).map dS), h) := subsets_ok Hs' (by rw [List.length_range]; exact hl)
  obtain ⟨x5, x6, x7, e1⟩ := cases_loopW (n := n) (h := h) Hi Hh hc hl hr hrl hn
  refine H.rt rfl ⟨[some (.lst (rows.map dS)), some (dS cs), some (.bl want), some (dS need), some (dN (casesW rows cs want need)), x5, x6, x7], ?_⟩ (leave_same rfl)
  unfold Bcases
  rw [exB_cons (se1 := [some (.lst (rows.map dS)), some (dS cs), some (.bl want), some (dS need), some (.int 0), none, none, none]) (h1 := h) (by simp only [exS, ev, evA, evO, evT, evC, evI_seq, evF_disp, evF_lst, evF_slk, evF_cat, cn_cf, startD, bltD, lenD, Cr.intD, tupleD, sumD, anyD, allD, absD, minD, maxD, gcdD, binD, cmpD, truD, idxD, isiD, mthD, isN, List.map_cons, List.map_nil, List.length_cons, List.length_nil, Option.bind_some, Option.map_some, List.set_cons_zero, List.set_cons_succ, List.getElem?_cons_zero, List.getElem?_cons_succ, List.replicate, List.cons_append, List.nil_append, List.append_nil, Nat.zero_add, Nat.add_one_sub_one, Nat.sub_self, putT, putS, if_true, and_self, sz0, sz1, sz2, sz3, sz5, sz6, wipeD, Nat.reduceAdd, Nat.reduceSub])]
  rw [exB_cons (se1 := [some (.lst (rows.map dS)), some (dS cs), some (.bl want), some (dS need), some (dN (casesW rows cs want need)), x5, x6, x7]) (h1 := h) (by
    have e5 := lrg_len (h := h) (x0 := some (.lst (rows.map dS))) (rest := [some (.bl want), some (dS need), some (.int 0), none, none, none]) (cs := cs) (by omega) (c := cn T (n + 2))
    have hsub : call T (n + 2) fs [.tup (dNs (List.range cs.length))] h = some (.lst ((subsF (List.range cs.length)).map dS), h) := hsub
    rw [exS_for (evI_lst (xs := (subsF (List.range cs.length)).map dS) (h1 := h) ((ev_call (evA_one (ev_blt (d := .tup (dNs (List.range cs.length))) (evA_one (ev_pl e5)) rfl))).trans hsub))]
    exact e1)]
  refine exB_rt ?_
  simp only [exS, ev, evA, evO, evT, evC, evI_seq, evF_disp, evF_lst, evF_slk, evF_cat, cn_cf, startD, bltD, lenD, Cr.intD, tupleD, sumD, anyD, allD, absD, minD, maxD, gcdD, binD, cmpD, truD, idxD, isiD, mthD, isN, List.map_cons, List.map_nil, List.length_cons, List.length_nil, Option.bind_some, Option.map_some, List.set_cons_zero, List.set_cons_succ, List.getElem?_cons_zero, List.getElem?_cons_succ, List.replicate, List.cons_append, List.nil_append, List.append_nil, Nat.zero_add, Nat.add_one_sub_one, Nat.sub_self, putT, putS, if_true, and_self, sz0, sz1, sz2, sz3, sz5, sz6, wipeD, Nat.reduceAdd, Nat.reduceSub]
end
end Cr
/-! What the nodes are worth, by what they say. -/
namespace Cr
open PySem PySem.Spec PyProof.Rows L2
def updB (g : Nat → Bool) (p : Nat) (b : Bool) : Nat → Bool := fun q => if q = p then b else g q
/-- the places p .. p + d - 1 by a code -/
def bitsB (g : Nat → Bool) (p d c : Nat) : Nat → Bool := fun q => if p ≤ q ∧ q < p + d then c / 2 ^ (q - p) % 2 == 1 else g q
/-- the truths of F over the places p .. p + d - 1 -/
def TT (F : (Nat → Bool) → Bool) (d p : Nat) (g : Nat → Bool) : List Bool := (List.range (2 ^ d)).map fun c => F (bitsB g p d c)
theorem bits_even {g : Nat → Bool} {p d c : Nat} : bitsB g p (d + 1) (2 * c) = bitsB (updB g p false) (p + 1) d c := by
  funext q
  unfold bitsB updB
  by_cases h1 : q = p
  · subst h1
    rw [if_pos (by omega), if_neg (by omega), if_pos rfl, Nat.sub_self]
    have : 2 * c / 2 ^ 0 % 2 = 0 := by rw [Nat.pow_zero, Nat.div_one]; omega
    rw [this]; rfl
  · by_cases h2 : p ≤ q ∧ q < p + (d + 1)
    · rw [if_pos h2, if_pos (by omega)]
      have : q - p = (q - (p + 1)) + 1 := by omega
      rw [this, Nat.pow_succ, Nat.mul_comm (2 ^ _) 2, ← Nat.div_div_eq_div_mul, Nat.mul_div_cancel_left _ (by decide)]
    · rw [if_neg h2, if_neg (by omega), if_neg h1]
theorem bits_odd {g : Nat → Bool} {p d c : Nat} : bitsB g p (d + 1) (2 * c + 1) = bitsB (updB g p true) (p + 1) d c := by
  funext q
  unfold bitsB updB
  by_cases h1 : q = p
  · subst h1
    rw [if_pos (by omega), if_neg (by omega), if_pos rfl, Nat.sub_self]
    have : (2 * c + 1) / 2 ^ 0 % 2 = 1 := by rw [Nat.pow_zero, Nat.div_one]; omega
    rw [this]; rfl
  · by_cases h2 : p ≤ q ∧ q < p + (d + 1)
    · rw [if_pos h2, if_pos (by omega)]
      have : q - p = (q - (p + 1)) + 1 := by omega
      rw [this, Nat.pow_succ, Nat.mul_comm (2 ^ _) 2, ← Nat.div_div_eq_div_mul]
      have : (2 * c + 1) / 2 = c := by omega
      rw [this]
    · rw [if_neg h2, if_neg (by omega), if_neg h1]
theorem ev2_rng {φ : Nat → Bool} {n : Nat} : ev2 ((List.range (2 * n)).map φ) = (List.range n).map (fun k => φ (2 * k)) ∧ od2 ((List.range (2 * n)).map φ) = (List.range n).map (fun k => φ (2 * k + 1)) := by
  have hl : ((List.range (2 * n)).map φ).length = 2 * n := by rw [List.length_map, List.length_range]
  obtain ⟨e1, e2⟩ := ev2_pick n _ hl
  have fm : ∀ (f : Nat → Option Bool) (k : Nat → Bool) (xs : List Nat), (∀ x ∈ xs, f x = some (k x)) → xs.filterMap f = xs.map k := by
    intro f k xs
    induction xs with
    | nil => intro _; rfl
    | cons x xs ih =>
      intro hx
      rw [List.filterMap_cons, hx x List.mem_cons_self]
      show k x :: xs.filterMap f = _
      rw [ih fun y hy => hx y (List.mem_cons_of_mem _ hy)]
      rfl
  rw [← e1, ← e2]
  constructor
  · refine fm _ _ _ fun x hx => ?_
    have := List.mem_range.mp hx
    rw [List.getElem?_map, List.getElem?_range (by omega)]
    rfl
  · refine fm _ _ _ fun x hx => ?_
    have := List.mem_range.mp hx
    rw [List.getElem?_map, List.getElem?_range (by omega)]
    rfl
theorem TT_ev {F : (Nat → Bool) → Bool} {d p : Nat} {g : Nat → Bool} : ev2 (TT F (d + 1) p g) = TT F d (p + 1) (updB g p false) ∧ od2 (TT F (d + 1) p g) = TT F d (p + 1) (updB g p true) := by
  unfold TT
  rw [Nat.pow_succ, Nat.mul_comm]
  obtain ⟨e1, e2⟩ := ev2_rng (φ := fun c => F (bitsB g p (d + 1) c)) (n := 2 ^ d)
  rw [e1, e2]
  exact ⟨List.map_congr_left fun c _ => by rw [bits_even], List.map_congr_left fun c _ => by rw [bits_odd]⟩
theorem TT_len {F : (Nat → Bool) → Bool} {d p : Nat} {g : Nat → Bool} : (TT F d p g).length = 2 ^ d := by unfold TT; rw [List.length_map, List.length_range]
theorem TT_congr {F G : (Nat → Bool) → Bool} {d p : Nat} {g : Nat → Bool} (h : ∀ f, (∀ q, q < p → f q = g q) → F f = G f) : TT F d p g = TT G d p g := by
  unfold TT
  refine List.map_congr_left fun c _ => h _ fun q hq => ?_
  unfold bitsB
  rw [if_neg (by omega)]
/-- what a node says hangs on its place and those behind it -/
theorem sem_dep {M : Nat} {ns : List Nd} (W : Wf M ns) : ∀ (k : Nat) (g f : Nat → Bool), k < ns.length + 2 → (∀ q, plc M ns k ≤ q → f q = g q) → sem ns f k = sem ns g k := by
  intro k
  induction k using Nat.strongRecOn with
  | _ k ih =>
    intro g f hk hq
    match k, hk, hq with
    | 0, _, _ => rfl
    | 1, _, _ => rfl
    | j + 2, hk, hq =>
      obtain ⟨⟨p, w, i⟩, e⟩ : ∃ r, ns[j]? = some r := ⟨_, List.getElem?_eq_getElem (by omega)⟩
      obtain ⟨k1, k2, k3, k4, k5⟩ := W.ok j p w i e
      have hpl : plc M ns (j + 2) = p := by rw [plc_at, e]
      rw [hpl] at hq
      rw [sem_node W e, sem_node W e, hq p (Nat.le_refl _), ih i (by omega) g f (by omega) fun q h => hq q (by omega), ih w (by omega) g f (by omega) fun q h => hq q (by omega)]
/-- the fraction of a node: the weight of the cases in which it says yes -/
theorem sem_VT {M : Nat} {cs : List Nat} {ns : List Nd} {vals : List (Nat × Nat)} (W : Wf M ns) (V : ValsOf ns cs vals) : ∀ (d p k : Nat) (g : Nat → Bool), p + d = M → k < ns.length + 2 → p ≤ plc M ns k →
    ∀ v, vals[k]? = some v → Fr v (VT cs d (TT (fun f => sem ns f k) d p g) p) (1000 ^ d) := by
  have hc : ∀ p, cs.getD p 0 ≤ 1000 := fun p => by
    rw [List.getD_eq_getElem?_getD]
    cases e : cs[p]? with
    | none => exact Nat.zero_le _
    | some c => exact V.cle c (List.mem_of_getElem? e)
  have low : ∀ (d p k : Nat) (g : Nat → Bool), k < 2 → ∀ v, vals[k]? = some v → Fr v (VT cs d (TT (fun f => sem ns f k) d p g) p) (1000 ^ d) := by
    intro d p k g hk v hv
    have : k = 0 ∨ k = 1 := by omega
    rcases this with rfl | rfl
    · rw [V.v0] at hv
      cases hv
      rw [VT_false d _ p fun b hb => by
        obtain ⟨c, _, rfl⟩ := List.mem_map.mp hb
        rfl]
      exact ⟨by simp, by decide⟩
    · rw [V.v1] at hv
      cases hv
      rw [VT_true hc d _ p TT_len fun b hb => by
        obtain ⟨c, _, rfl⟩ := List.mem_map.mp hb
        rfl]
      exact ⟨by rw [Nat.mul_comm], by decide⟩
  intro d
  induction d with
  | zero =>
    intro p k g hp hk hpl v hv
    refine low 0 p k g ?_ v hv
    match k, hk, hpl with
    | 0, _, _ => omega
    | 1, _, _ => omega
    | j + 2, hk, hpl =>
      exfalso
      obtain ⟨⟨q, w, i⟩, e⟩ : ∃ r, ns[j]? = some r := ⟨_, List.getElem?_eq_getElem (by omega)⟩
      have := (W.ok j q w i e).1
      rw [plc_at, e] at hpl
      have hpl : p ≤ q := hpl
      omega
  | succ d ih =>
    intro p k g hp hk hpl v hv
    by_cases hk2 : k < 2
    · exact low _ p k g hk2 v hv
    obtain ⟨j, rfl⟩ : ∃ j, k = j + 2 := ⟨k - 2, by omega⟩
    obtain ⟨⟨q, w, i⟩, e⟩ : ∃ r, ns[j]? = some r := ⟨_, List.getElem?_eq_getElem (by omega)⟩
    obtain ⟨k1, k2, k3, k4, k5⟩ := W.ok j q w i e
    have hplc : plc M ns (j + 2) = q := by rw [plc_at, e]
    rw [hplc] at hpl
    obtain ⟨t1, t2⟩ := TT_ev (F := fun f => sem ns f (j + 2)) (d := d) (p := p) (g := g)
    rw [VT, t1, t2]
    by_cases hpq : p = q
    · subst hpq
      obtain ⟨_, _, c, vw, vi, c1, c2, c3, c4⟩ := V.node j p w i e
      rw [c4] at hv
      cases hv
      have ec : cs.getD p 0 = c := by rw [List.getD_eq_getElem?_getD, c1]; rfl
      rw [ec]
      have f1 : TT (fun f => sem ns f (j + 2)) d (p + 1) (updB g p false) = TT (fun f => sem ns f w) d (p + 1) (updB g p false) := TT_congr fun f hf => by
        have : f p = false := by rw [hf p (by omega)]; unfold updB; rw [if_pos rfl]
        show sem ns f (j + 2) = sem ns f w
        rw [sem_node W e, this]
        rfl
      have f2 : TT (fun f => sem ns f (j + 2)) d (p + 1) (updB g p true) = TT (fun f => sem ns f i) d (p + 1) (updB g p true) := TT_congr fun f hf => by
        have : f p = true := by rw [hf p (by omega)]; unfold updB; rw [if_pos rfl]
        show sem ns f (j + 2) = sem ns f i
        rw [sem_node W e, this]
        rfl
      rw [f1, f2, Nat.pow_succ, Nat.mul_comm (1000 ^ d)]
      exact step_fr (Nat.pow_pos (by decide)) (ih (p + 1) w _ (by omega) (by omega) (by omega) vw c2) (ih (p + 1) i _ (by omega) (by omega) (by omega) vi c3)
    · have a := ih (p + 1) (j + 2) (updB g p false) (by omega) hk (by omega) v hv
      have b := ih (p + 1) (j + 2) (updB g p true) (by omega) hk (by omega) v hv
      generalize VT cs d (TT (fun f => sem ns f (j + 2)) d (p + 1) (updB g p false)) (p + 1) = A at a
      generalize VT cs d (TT (fun f => sem ns f (j + 2)) d (p + 1) (updB g p true)) (p + 1) = B at b
      refine ⟨?_, a.2⟩
      have hcp := hc p
      have e1 := a.1
      have e2 := b.1
      have e3 : v.1 * (1000 ^ d * 1000) = (1000 - cs.getD p 0) * (v.1 * 1000 ^ d) + cs.getD p 0 * (v.1 * 1000 ^ d) := by
        rw [← Nat.add_mul, Nat.sub_add_cancel hcp]
        grind
      rw [Nat.pow_succ, e3]
      conv => lhs; arg 1; rw [e1]
      rw [e2]
      grind
def inB (s : List Nat) : Nat → Bool := fun q => decide (q ∈ s)
theorem bits_memb {m c : Nat} : bitsB (fun _ => false) 0 m c = inB (membP m c) := by
  funext q
  unfold bitsB inB membP
  by_cases h : q < m
  · rw [if_pos (by omega), Nat.sub_zero]
    cases hb : c / 2 ^ q % 2 == 1 with
    | true => exact (decide_eq_true (List.mem_filter.mpr ⟨List.mem_range.mpr h, hb⟩)).symm
    | false => exact (decide_eq_false fun z => by have := (List.mem_filter.mp z).2; rw [hb] at this; cases this).symm
  · rw [if_neg (by omega)]
    exact (decide_eq_false fun z => h (List.mem_range.mp (List.mem_filter.mp z).1)).symm
theorem TT_subs {F : (Nat → Bool) → Bool} {m : Nat} : TT F m 0 (fun _ => false) = (subsF (List.range m)).map fun s => F (inB s) := by
  rw [subs_memb, List.map_map]
  unfold TT
  exact List.map_congr_left fun c _ => by rw [bits_memb]; rfl
/-- the weight of the sets to which F says yes -/
def sumW (cs : List Nat) (m : Nat) (F : List Nat → Bool) : Nat := ((subsF (List.range m)).map fun s => if F s then wtP cs s m else 0).sum
theorem sumW_congr {cs : List Nat} {m : Nat} {F G : List Nat → Bool} (h : ∀ s, s ∈ subsF (List.range m) → F s = G s) : sumW cs m F = sumW cs m G := by
  unfold sumW
  rw [List.map_congr_left fun s hs => by rw [h s hs]]
theorem sem_val {M : Nat} {cs : List Nat} {ns : List Nd} {vals : List (Nat × Nat)} (W : Wf M ns) (V : ValsOf ns cs vals) {k : Nat} (hk : k < ns.length + 2) {v : Nat × Nat} (hv : vals[k]? = some v) : Fr v (sumW cs M fun s => sem ns (inB s) k) (1000 ^ M) := by
  have := sem_VT W V M 0 k (fun _ => false) (by omega) hk (Nat.zero_le _) v hv
  rw [TT_subs, VT_subs] at this
  exact this
/-! ### what the table of the law says -/
def TB : Nat → List Bool → Nat → (Nat → Bool) → Bool
  | 0, bs, _, _ => bs.all id
  | d + 1, bs, p, g => if g p then TB d (od2 bs) (p + 1) g else TB d (ev2 bs) (p + 1) g
theorem TB_all : ∀ (d : Nat) (bs : List Bool) (p : Nat) (g : Nat → Bool), (∀ b ∈ bs, b = true) → TB d bs p g = true
  | 0, bs, p, g, h => List.all_eq_true.mpr h
  | d + 1, bs, p, g, h => by
    rw [TB]
    split
    · exact TB_all d _ _ g fun b hb => h b ((ev2_mem bs b).2 hb)
    · exact TB_all d _ _ g fun b hb => h b ((ev2_mem bs b).1 hb)
theorem TB_none : ∀ (d : Nat) (bs : List Bool) (p : Nat) (g : Nat → Bool), bs.length = 2 ^ d → (∀ b ∈ bs, b = false) → TB d bs p g = false
  | 0, bs, p, g, hl, h => by
    match bs, hl, h with
    | [b], _, h => rw [h b List.mem_cons_self]; rfl
  | d + 1, bs, p, g, hl, h => by
    have hl2 : bs.length = 2 * 2 ^ d := by rw [hl, Nat.pow_succ]; omega
    obtain ⟨le, lo⟩ := ev2_len _ bs hl2
    rw [TB]
    split
    · exact TB_none d _ _ g lo fun b hb => h b ((ev2_mem bs b).2 hb)
    · exact TB_none d _ _ g le fun b hb => h b ((ev2_mem bs b).1 hb)
theorem node_sem {M : Nat} {NS : List Nd} (WN : Wf M NS) : ∀ (d : Nat) (bs : List Bool) (p : Nat) (ns : List Nd), bs.length = 2 ^ d → p + d = M → Wf M ns → Ext (nodeP d bs p ns).2 NS → ∀ g, sem NS g (nodeP d bs p ns).1 = TB d bs p g
  | d, bs, p, ns, hl, hp, W, hN, g => by
    by_cases h1 : bs.all id = true
    · have e : (nodeP d bs p ns).1 = 1 := by
        cases d with
        | zero => unfold nodeP; show (if _ then 1 else 0) = 1; rw [if_pos h1]
        | succ d => unfold nodeP; rw [if_pos h1]
      rw [e, TB_all d bs p g fun b hb => List.all_eq_true.mp h1 b hb]
      rfl
    by_cases h2 : bs.any id = true
    rotate_left
    · have e : (nodeP d bs p ns).1 = 0 := by
        cases d with
        | zero => unfold nodeP; show (if _ then 1 else 0) = 0; rw [if_neg h1]
        | succ d => unfold nodeP; rw [if_neg h1, if_neg h2]
      rw [e, TB_none d bs p g hl fun b hb => by
        cases b with
        | false => rfl
        | true => exact absurd (List.any_eq_true.mpr ⟨true, hb, rfl⟩) h2]
      rfl
    cases d with
    | zero =>
      exfalso
      match bs, hl with
      | [b], _ => cases b <;> simp at h1 h2
    | succ d =>
      have hl2 : bs.length = 2 * 2 ^ d := by rw [hl, Nat.pow_succ]; omega
      obtain ⟨le, lo⟩ := ev2_len _ bs hl2
      obtain ⟨a1, ⟨ea, a2⟩, a3, a4⟩ := nodeP_wf (m := M) d (ev2 bs) (p + 1) ns (by omega) W
      have iha := node_sem WN d (ev2 bs) (p + 1) ns le (by omega) W
      generalize ha : nodeP d (ev2 bs) (p + 1) ns = a at a1 a2 a3 a4 iha
      obtain ⟨b1, ⟨eb, b2⟩, b3, b4⟩ := nodeP_wf (m := M) d (od2 bs) (p + 1) a.2 (by omega) a1
      have ihb := node_sem WN d (od2 bs) (p + 1) a.2 lo (by omega) a1
      generalize hb : nodeP d (od2 bs) (p + 1) a.2 = b at b1 b2 b3 b4 ihb
      have eN : nodeP (d + 1) bs p ns = (if a.1 = b.1 then (a.1, b.2) else (posT (p, a.1, b.1) (addT (p, a.1, b.1) b.2) + 2, addT (p, a.1, b.1) b.2)) := by
        unfold nodeP
        rw [if_neg h1, if_pos h2, ha]
        dsimp only
        rw [hb]
      rw [eN] at hN ⊢
      rw [TB]
      by_cases hab : a.1 = b.1
      · rw [if_pos hab] at hN ⊢
        have hN : Ext b.2 NS := hN
        have fa := iha (Ext.trans ⟨eb, b2⟩ hN) g
        have fb := ihb hN g
        show sem NS g a.1 = _
        rw [← fa, ← fb, ← hab]
        split <;> rfl
      · rw [if_neg hab] at hN ⊢
        have hN : Ext (addT (p, a.1, b.1) b.2) NS := hN
        have hx : Ext b.2 (addT (p, a.1, b.1) b.2) := addT_app (p, a.1, b.1) b.2
        have hg := posT_get (addT_mem (p, a.1, b.1) b.2)
        have hlt := (List.getElem?_eq_some_iff.mp hg).1
        obtain ⟨ex, hex⟩ := hN
        have hgN : NS[posT (p, a.1, b.1) (addT (p, a.1, b.1) b.2)]? = some (p, a.1, b.1) := by
          rw [hex, List.getElem?_append_left hlt]; exact hg
        show sem NS g (posT (p, a.1, b.1) (addT (p, a.1, b.1) b.2) + 2) = _
        rw [sem_node WN hgN, iha (Ext.trans ⟨eb, b2⟩ (Ext.trans hx ⟨ex, hex⟩)) g, ihb (Ext.trans hx ⟨ex, hex⟩) g]
theorem TB_TT {F : (Nat → Bool) → Bool} : ∀ (d p : Nat) (g0 g : Nat → Bool), TB d (TT F d p g0) p g = F (fun q => if p ≤ q ∧ q < p + d then g q else g0 q)
  | 0, p, g0, g => by
    have e : TT F 0 p g0 = [F (bitsB g0 p 0 0)] := rfl
    rw [e, TB]
    have e2 : bitsB g0 p 0 0 = fun q => if p ≤ q ∧ q < p + 0 then g q else g0 q := by
      funext q
      unfold bitsB
      rw [if_neg (by omega), if_neg (by omega)]
    rw [e2]
    show (F _ && true) = _
    rw [Bool.and_true]
  | d + 1, p, g0, g => by
    obtain ⟨t1, t2⟩ := TT_ev (F := F) (d := d) (p := p) (g := g0)
    rw [TB, t1, t2, TB_TT d (p + 1), TB_TT d (p + 1)]
    have e : ∀ b, g p = b → (fun q => if p + 1 ≤ q ∧ q < p + 1 + d then g q else updB g0 p b q) = fun q => if p ≤ q ∧ q < p + (d + 1) then g q else g0 q := fun b hb => by
      funext q
      unfold updB
      by_cases h1 : q = p
      · subst h1
        rw [if_neg (by omega), if_pos rfl, if_pos (by omega), hb]
      · by_cases h2 : p ≤ q ∧ q < p + (d + 1)
        · rw [if_pos (by omega), if_pos h2]
        · rw [if_neg (by omega), if_neg h1, if_neg h2]
    cases hb : g p with
    | true => rw [if_pos rfl, e true hb]
    | false => rw [if_neg (by decide), e false hb]
/-- the drawn rows, asked of the places below m -/
def rowF (rows : List (List Nat)) (m : Nat) (g : Nat → Bool) : Bool := holdsB rows ((List.range m).filter g)
theorem truths_TT {rows : List (List Nat)} {m : Nat} : truths rows m (2 ^ m) = TT (rowF rows m) m 0 (fun _ => false) := by
  unfold truths TT rowF
  refine List.map_congr_left fun c _ => ?_
  congr 1
  unfold membP
  refine List.filter_congr fun q hq => ?_
  have := List.mem_range.mp hq
  unfold bitsB
  rw [if_pos (by omega), Nat.sub_zero]
theorem subs_filter {m : Nat} {s : List Nat} (h : s ∈ subsF (List.range m)) : (List.range m).filter (inB s) = s := by
  rw [subs_memb] at h
  obtain ⟨c, _, rfl⟩ := List.mem_map.mp h
  rw [← bits_memb]
  unfold membP
  refine List.filter_congr fun q hq => ?_
  have := List.mem_range.mp hq
  unfold bitsB
  rw [if_pos (by omega), Nat.sub_zero]
/-- what the table of the law says -/
theorem table_sem {rows : List (List Nat)} {m : Nat} (g : Nat → Bool) : sem (nodeP m (truths rows m (2 ^ m)) 0 []).2 g (nodeP m (truths rows m (2 ^ m)) 0 []).1 = rowF rows m (fun q => if q < m then g q else false) := by
  have W0 : Wf m ([] : List Nd) := ⟨fun j p w i e => by simp at e⟩
  rw [truths_TT]
  obtain ⟨w1, w2, w3, w4⟩ := nodeP_wf (m := m) m (TT (rowF rows m) m 0 fun _ => false) 0 [] (by omega) W0
  rw [node_sem w1 m _ 0 [] TT_len (by omega) W0 (Ext.refl _) g, TB_TT]
  congr 1
  funext q
  by_cases h : q < m
  · rw [if_pos (by omega), if_pos h]
  · rw [if_neg (by omega), if_neg h]
theorem table_sem_s {rows : List (List Nat)} {m : Nat} {s : List Nat} (h : s ∈ subsF (List.range m)) : sem (nodeP m (truths rows m (2 ^ m)) 0 []).2 (inB s) (nodeP m (truths rows m (2 ^ m)) 0 []).1 = holdsB rows s := by
  rw [table_sem]
  unfold rowF
  congr 1
  have e := subs_filter h
  conv => rhs; rw [← e]
  refine List.filter_congr fun q hq => ?_
  rw [if_pos (List.mem_range.mp hq)]
end Cr
/-! right: the chances of the axioms if a condition says no. -/
namespace Cr
open PySem PySem.Spec PyProof.Rows L2
section
variable {T : Tb} {n : Nat} {h : Hs}
def overP (x y : Nat × Nat) : Nat × Nat := lowP (x.1 * y.2) (x.2 * y.1)
def Bover (fl : Nat) : CB := (.cons (.ret (.call fl (.cons (.bin .Mult (.idx (.var 0) (.cst (.int 0))) (.idx (.var 1) (.cst (.int 1)))) (.cons (.bin .Mult (.idx (.var 0) (.cst (.int 1))) (.idx (.var 1) (.cst (.int 0)))) .nil)))) .nil)
theorem over_ok {f fl : Nat} (H : Has T f (Bover fl) 2 2 true) (H1 : Has T fl Blowest 2 3 true) {x y : Nat × Nat} (x2 : 0 < x.2) (y1 : 0 < y.1) (hx2 : x.2 < 2 ^ 64) (hy1 : y.1 < 2 ^ 64) (hy2 : y.2 < 2 ^ 64) : call T (n + 2) f [dP x, dP y] h = some (dP (overP x y), h) := by
  have e1 : call T (n + 1) fl [dN (x.1 * y.2), dN (x.2 * y.1)] h = some (dP (overP x y), h) := lowest_ok H1 (Nat.mul_pos x2 y1) (pow_lt hx2 hy1)
  have e1 : call T (n + 1) fl [.int ((x.1 : Int) * (y.2 : Int)), .int ((x.2 : Int) * (y.1 : Int))] h = some (dP (overP x y), h) := by
    unfold dN at e1
    rw [Int.natCast_mul, Int.natCast_mul] at e1
    exact e1
  refine H.rt rfl ⟨[some (dP x), some (dP y)], ?_⟩ (leave_same (d := dP (overP x y)) rfl)
  unfold Bover
  refine exB_rt ?_
  obtain ⟨xa, xb⟩ := x
  obtain ⟨ya, yb⟩ := y
  simp only [exS, ev, evA, evO, evT, evC, evI_seq, evF_disp, evF_lst, evF_slk, evF_cat, cn_cf, startD, bltD, lenD, Cr.intD, tupleD, sumD, anyD, allD, absD, minD, maxD, gcdD, binD, cmpD, truD, idxD, isiD, mthD, isN, List.map_cons, List.map_nil, List.length_cons, List.length_nil, Option.bind_some, Option.map_some, List.set_cons_zero, List.set_cons_succ, List.getElem?_cons_zero, List.getElem?_cons_succ, List.replicate, List.cons_append, List.nil_append, List.append_nil, Nat.zero_add, Nat.add_one_sub_one, Nat.sub_self, putT, putS, if_true, and_self, sz0, sz1, sz2, sz3, sz5, sz6, wipeD, Nat.reduceAdd, Nat.reduceSub, dP, dN, at0, at1, mulN hy2, mulN hy1, e1]
/-- what the program's fractions are -/
structure FrOk (m : Nat) (cs : List Nat) (W : Nat) (v : Nat × Nat) : Prop where
  fr : Fr v W (1000 ^ m)
  p2 : 0 < v.2
  b1 : v.1 < 2 ^ 50
  b2 : v.2 < 2 ^ 50
theorem chance_sem {f fl fp ft : Nat} (hG : (T.G[0]?).map (·.2) = some (.int 1000)) (H : Has T f (Bchance fl fp ft) 2 7 true) (Hl : Has T fl Blowest 2 3 true) (Hp : Has T fp (Bplus fl) 2 2 true) (Ht : Has T ft (Btimes fl) 2 2 true) {rs : List Nd} {k m : Nat} {cs : List Nat}
    (W : Wf m rs) (hk : k < rs.length + 2) (hm : m ≤ 5) (hl : cs.length = m) (hc : ∀ c ∈ cs, c ≤ 1000) (hn : rs.length ≤ 1000) : ∃ v, (∀ n h, call T (n + 3) f [dC rs k, dS cs] h = some (dP v, h)) ∧ FrOk m cs (sumW cs m fun s => sem rs (inB s) k) v := by
  obtain ⟨vals, V, G⟩ := vals_of (cs := cs) W hm hl hc rs.length (Nat.le_refl _)
  rw [List.take_length] at V
  obtain ⟨v, ev1⟩ : ∃ v, vals[k]? = some v := ⟨_, List.getElem?_eq_getElem (by rw [V.len]; exact hk)⟩
  obtain ⟨o1, o2, o3⟩ := V.ok v (List.mem_of_getElem? ev1)
  exact ⟨v, fun n h => chance_ok hG H Hl Hp Ht V ev1 hn, ⟨sem_val W V hk ev1, o1, o2, o3⟩⟩
theorem sumW_le {cs : List Nat} {m : Nat} {F : List Nat → Bool} (hc : ∀ c ∈ cs, c ≤ 1000) : sumW cs m F ≤ 1000 ^ m := by
  unfold sumW
  rw [← VT_subs]
  refine VT_le (fun p => ?_) m _ 0
  rw [List.getD_eq_getElem?_getD]
  cases e : cs[p]? with
  | none => exact Nat.zero_le _
  | some c => exact hc c (List.mem_of_getElem? e)
theorem over_fr {x y : Nat × Nat} {A B M : Nat} (hM : 0 < M) (hx : Fr x A M) (hy : Fr y B M) (hB : 0 < B) : Fr (overP x y) A B ∧ 0 < y.1 := by
  obtain ⟨x1, x2⟩ := hx
  obtain ⟨y1, y2⟩ := hy
  have yp : 0 < y.1 := by
    rcases Nat.eq_zero_or_pos y.1 with z | z
    · rw [z, Nat.zero_mul] at y1
      have := Nat.mul_pos hB y2
      omega
    · exact z
  refine ⟨lowP_fr (Nat.mul_pos x2 yp) ?_, yp⟩
  -- x1 * y2 * B = A * (x2 * y1)
  refine Nat.eq_of_mul_eq_mul_left hM ?_
  have e1 : M * (x.1 * y.2 * B) = (x.1 * M) * (B * y.2) := by grind
  have e2 : M * (A * (x.2 * y.1)) = (A * x.2) * (y.1 * M) := by grind
  rw [e1, e2, x1, y1]
def Lright (fo fc fb fv : Nat) : CB := (.cons (.exp (.mth .append (.var 4) (.cons (.call fo (.cons (.call fc (.cons (.call fb (.cons (.var 2) (.cons (.call fv (.cons (.var 5) .nil)) .nil))) (.cons (.var 1) .nil))) (.cons (.var 3) .nil))) .nil))) .nil)
def Bright (fneg fo fc fb fv : Nat) : CB := (.cons (.set 2 (.call fneg (.cons (.var 0) .nil))) (.cons (.set 3 (.call fc (.cons (.var 2) (.cons (.var 1) .nil)))) (.cons (.ife (.cmp .Eq (.idx (.var 3) (.cst (.int 0))) (.cst (.int 0))) (.cons (.ret (.cst .non)) .nil) .nil) (.cons (.set 4 (.bx (.disp .nil))) (.cons (.for_ (.nm 5) (.rng1 (.blt .len (.cons (.var 1) .nil))) (Lright fo fc fb fv)) (.cons (.ret (.blt .tuple (.cons (.var 4) .nil))) .nil))))))
variable {fi fm ft fs fg fj fno fa ftk ftd fw : Nat}
theorem right_ok (SH : StH T fi fm ft fs fg fj fno fa ftk ftd fw) {f fneg fo fc fb fv fl fp fti : Nat} (H : Has T f (Bright fneg fo fc fb fv) 2 6 true) (Hneg : Has T fneg (Bnegation ftd fno ftk) 1 2 true) (Hb : Has T fb (Bboth ftd fa ftk) 2 3 true) (Hv : Has T fv Bvar 1 1 true)
    (hG : (T.G[0]?).map (·.2) = some (.int 1000)) (Hc : Has T fc (Bchance fl fp fti) 2 7 true) (Hl : Has T fl Blowest 2 3 true) (Hp : Has T fp (Bplus fl) 2 2 true) (Hti : Has T fti (Btimes fl) 2 2 true) (Ho : Has T fo (Bover fl) 2 2 true)
    {m : Nat} {cs : List Nat} (hm : m ≤ 5) (hl : cs.length = m) (hc : ∀ c ∈ cs, c ≤ 1000) {rs : List Nd} {k : Nat} (W : Wf m rs) (hk : k < rs.length + 2) (hn : rs.length ≤ 1000) :
    (sumW cs m (fun s => !sem rs (inB s) k) = 0 → call T (n + 12) f [dC rs k, dS cs] h = some (.non, h)) ∧
    (0 < sumW cs m (fun s => !sem rs (inB s) k) → ∃ vs : List (Nat × Nat), vs.length = m ∧ call T (n + 12) f [dC rs k, dS cs] h = some (.tup (vs.map dP), h) ∧
      ∀ p v, vs[p]? = some v → Nat.gcd v.1 v.2 = 1 ∧ v.2 < 2 ^ 64 ∧ Fr v (sumW cs m fun s => (!sem rs (inB s) k) && decide (p ∈ s)) (sumW cs m fun s => !sem rs (inB s) k)) := by
  have h32 : 2 ^ m ≤ 2 ^ 5 := Nat.pow_le_pow_right (by decide) hm
  have h5 : (2 : Nat) ^ 5 = 32 := rfl
  obtain ⟨ns, r, c1, w1, v1, s1, z1⟩ := negation_ok (N := n + 7) (h := h) SH Hneg (M := m) (by omega) W hk (by omega)
  obtain ⟨w, c2, o2⟩ := chance_sem hG Hc Hl Hp Hti w1 v1 hm hl hc (by omega)
  have esum : (sumW cs m fun s => sem ns (inB s) r) = sumW cs m fun s => !sem rs (inB s) k := sumW_congr fun s _ => s1 (inB s)
  rw [esum] at o2
  have hM : 0 < 1000 ^ m := Nat.pow_pos (by decide)
  generalize hB : (sumW cs m fun s => !sem rs (inB s) k) = B at o2 ⊢
  have hw : w.1 * 1000 ^ m = B * w.2 := o2.fr.1
  have hle : B ≤ 1000 ^ m := by rw [← hB]; exact sumW_le hc
  have q1 : exS (cn T (n + 11)) (.set 2 (.call fneg (.cons (.var 0) .nil))) [some (dC rs k), some (dS cs), none, none, none, none] h = some (.nx, [some (dC rs k), some (dS cs), some (dC ns r), none, none, none], h) := exS_set ((ev_call (ds := [dC rs k]) (h1 := h) rfl).trans c1)
  have q2 : exS (cn T (n + 11)) (.set 3 (.call fc (.cons (.var 2) (.cons (.var 1) .nil)))) [some (dC rs k), some (dS cs), some (dC ns r), none, none, none] h = some (.nx, [some (dC rs k), some (dS cs), some (dC ns r), some (dP w), none, none], h) := exS_set ((ev_call (ds := [dC ns r, dS cs]) (h1 := h) rfl).trans (c2 (n + 8) h))
  have q3 : evT (cn T (n + 11)) (.cmp .Eq (.idx (.var 3) (.cst (.int 0))) (.cst (.int 0))) [some (dC rs k), some (dS cs), some (dC ns r), some (dP w), none, none] h = some (decide (w.1 = 0), h) := by
    simp only [exS, ev, evA, evO, evT, evC, evI_seq, evF_disp, evF_lst, evF_slk, evF_cat, cn_cf, startD, bltD, lenD, Cr.intD, tupleD, sumD, anyD, allD, absD, minD, maxD, gcdD, binD, cmpD, truD, idxD, isiD, mthD, isN, List.map_cons, List.map_nil, List.length_cons, List.length_nil, Option.bind_some, Option.map_some, List.set_cons_zero, List.set_cons_succ, List.getElem?_cons_zero, List.getElem?_cons_succ, List.replicate, List.cons_append, List.nil_append, List.append_nil, Nat.zero_add, Nat.add_one_sub_one, Nat.sub_self, putT, putS, if_true, and_self, sz0, sz1, sz2, sz3, sz5, sz6, wipeD, Nat.reduceAdd, Nat.reduceSub, dP, dN, at0, eqD_int, nat_eq0]
  refine ⟨fun hz => ?_, fun hpos => ?_⟩
  · have : w.1 = 0 := by
      rw [hz, Nat.zero_mul] at hw
      rcases Nat.mul_eq_zero.mp hw with z | z
      · exact z
      · omega
    rw [decide_eq_true this] at q3
    refine H.rt rfl ⟨[some (dC rs k), some (dS cs), some (dC ns r), some (dP w), none, none], ?_⟩ (leave_same (d := .non) rfl)
    exact exB_step q1 (exB_step q2 (exB_rt ((exS_ifT q3).trans rfl)))
  · have hw1 : w.1 ≠ 0 := fun z => by
      rw [z, Nat.zero_mul] at hw
      have := Nat.mul_pos hpos o2.p2
      omega
    rw [decide_eq_false hw1] at q3
    obtain ⟨se', h', e1, x5, vs, e2, e3, e4, e5⟩ := forD_run (st := fun _ => True) (tg := .nm 5) (b := exB (cn T (n + 11)) (Lright fo fc fb fv)) (xs := (List.range m).map fun (k : Nat) => D.int (0 + (k : Int)))
      (fun i se h' => ∃ (x5 : Option D) (vs : List (Nat × Nat)), se = [some (dC rs k), some (dS cs), some (dC ns r), some (dP w), some (.ref h.length), x5] ∧ h' = h ++ [O.lst (vs.map dP)] ∧ vs.length = i ∧
        ∀ p v, vs[p]? = some v → Nat.gcd v.1 v.2 = 1 ∧ v.2 < 2 ^ 64 ∧ Fr v (sumW cs m fun s => (!sem rs (inB s) k) && decide (p ∈ s)) B)
      (se := [some (dC rs k), some (dS cs), some (dC ns r), some (dP w), some (.ref h.length), none]) (h := h ++ [O.lst []]) ⟨none, [], rfl, rfl, rfl, fun p v e => by simp at e⟩ (fun _ _ _ _ => trivial) (by
        rintro i x se h' ex ⟨x5, vs, rfl, e, hi, hv⟩
        subst e
        obtain ⟨him, rfl⟩ := rng_get ex
        have d1 := variable_ok (n := n + 10) Hv (h := h ++ [O.lst (vs.map dP)]) i
        obtain ⟨qs, q, d2, w4, v4, s4, z4⟩ := both_ok (N := n + 7) (h := h ++ [O.lst (vs.map dP)]) SH Hb (M := m) (by omega) w1 v1 (variable_wf him) (l := 2) (by show 2 < 3; decide) (by show ns.length + 1 + 2 ^ m ≤ 30000; omega)
        obtain ⟨u, d3, o3⟩ := chance_sem hG Hc Hl Hp Hti w4 v4 hm hl hc (by omega)
        have es : (sumW cs m fun s => sem qs (inB s) q) = sumW cs m fun s => (!sem rs (inB s) k) && decide (i ∈ s) := sumW_congr fun s _ => by rw [s4, s1, variable_sem]; rfl
        rw [es] at o3
        obtain ⟨f1, wp⟩ := over_fr hM o3.fr o2.fr hpos
        have b64 : (2 : Nat) ^ 50 < 2 ^ 64 := by decide
        have d4 : call T (n + 11) fo [dP u, dP w] (h ++ [O.lst (vs.map dP)]) = some (dP (overP u w), h ++ [O.lst (vs.map dP)]) := over_ok Ho Hl o3.p2 wp (Nat.lt_trans o3.b2 b64) (Nat.lt_trans o2.b1 b64) (Nat.lt_trans o2.b2 b64)
        have gl : (h ++ [O.lst (vs.map dP)])[h.length]? = some (.lst (vs.map dP)) := getA (k := 0)
        refine ⟨_, [some (dC rs k), some (dS cs), some (dC ns r), some (dP w), some (.ref h.length), some (dN i)], h ++ [O.lst ((vs ++ [overP u w]).map dP)], rfl, ?_, some (dN i), vs ++ [overP u w], rfl, rfl, by rw [List.length_append, hi]; rfl, fun p v e => ?_⟩
        · refine exB_step (ev_app (n := h.length) (xs := vs.map dP) (ys := vs.map dP) (d := dP (overP u w)) (h1 := h ++ [O.lst (vs.map dP)]) (h2 := h ++ [O.lst (vs.map dP)]) rfl gl ?_ gl ?_ ?_) exB_nil
          · exact (ev_call (evA_cons ((ev_call (evA_cons ((ev_call (evA_cons (d := dC ns r) (h1 := h ++ [O.lst (vs.map dP)]) rfl (evA_one ((ev_call (ds := [dN i]) (h1 := h ++ [O.lst (vs.map dP)]) rfl).trans d1)))).trans d2) (evA_one (d := dS cs) (h1 := h ++ [O.lst (vs.map dP)]) rfl))).trans (d3 (n + 8) _)) (evA_one (d := dP w) (h1 := h ++ [O.lst (vs.map dP)]) rfl))).trans d4
          · have := sz_le (show (vs.map dP).length + 1 ≤ 1000000 by rw [List.length_map]; omega)
            omega
          · rw [setA0, List.map_append]
            rfl
        · by_cases hp : p < vs.length
          · rw [List.getElem?_append_left hp] at e
            exact hv p v e
          · have h5 := (List.getElem?_eq_some_iff.mp e).1
            rw [List.length_append, List.length_singleton] at h5
            have h6 : p = i := by omega
            subst h6
            rw [List.getElem?_append_right (by omega), hi, Nat.sub_self] at e
            cases e
            have pos := Nat.mul_pos o3.p2 wp
            refine ⟨(lowP_val pos).2.2, ?_, f1⟩
            have hd : (overP u w).2 ∣ B := by
              have h1 : (overP u w).2 ∣ (overP u w).1 * B := ⟨_, by rw [f1.1, Nat.mul_comm]⟩
              exact Nat.Coprime.dvd_of_dvd_mul_left (Nat.Coprime.symm (lowP_val pos).2.2) h1
            have h7 := Nat.le_of_dvd hpos hd
            have h8 : 1000 ^ m ≤ 1000 ^ 5 := Nat.pow_le_pow_right (by decide) hm
            have h9 : (1000 : Nat) ^ 5 < 2 ^ 64 := by decide +kernel
            omega)
    subst e2 e3
    rw [List.length_map, List.length_range] at e4
    refine ⟨vs, e4, H.rt (h' := h ++ [O.lst (vs.map dP)]) rfl ⟨[some (dC rs k), some (dS cs), some (dC ns r), some (dP w), some (.ref h.length), x5], ?_⟩ (leave_pure (d := .tup (vs.map dP)) (pureDs_all fun x hx => by
      obtain ⟨v, _, rfl⟩ := List.mem_map.mp hx
      rfl)), e5⟩
    refine exB_step q1 (exB_step q2 (exB_step ((exS_ifF q3).trans exB_nil) (exB_step (exS_set (ev_bx (xs := []) (h1 := h) rfl)) (exB_step ((exS_for (evI_rngN (m := m) (h1 := h ++ [O.lst []]) (by omega) ?_)).trans e1) (exB_rt (exS_ret ?_))))))
    · simp only [exS, ev, evA, evO, evT, evC, evI_seq, evF_disp, evF_lst, evF_slk, evF_cat, cn_cf, startD, bltD, lenD, Cr.intD, tupleD, sumD, anyD, allD, absD, minD, maxD, gcdD, binD, cmpD, truD, idxD, isiD, mthD, isN, List.map_cons, List.map_nil, List.length_cons, List.length_nil, Option.bind_some, Option.map_some, List.set_cons_zero, List.set_cons_succ, List.getElem?_cons_zero, List.getElem?_cons_succ, List.replicate, List.cons_append, List.nil_append, List.append_nil, Nat.zero_add, Nat.add_one_sub_one, Nat.sub_self, putT, putS, if_true, and_self, sz0, sz1, sz2, sz3, sz5, sz6, wipeD, Nat.reduceAdd, Nat.reduceSub, dS, seqOf]
      unfold dNs
      rw [List.length_map, hl]
      rfl
    · have gl : (h ++ [O.lst (vs.map dP)])[h.length]? = some (.lst (vs.map dP)) := getA (k := 0)
      simp only [exS, ev, evA, evO, evT, evC, evI_seq, evF_disp, evF_lst, evF_slk, evF_cat, cn_cf, startD, bltD, lenD, Cr.intD, tupleD, sumD, anyD, allD, absD, minD, maxD, gcdD, binD, cmpD, truD, idxD, isiD, mthD, isN, List.map_cons, List.map_nil, List.length_cons, List.length_nil, Option.bind_some, Option.map_some, List.set_cons_zero, List.set_cons_succ, List.getElem?_cons_zero, List.getElem?_cons_succ, List.replicate, List.cons_append, List.nil_append, List.append_nil, Nat.zero_add, Nat.add_one_sub_one, Nat.sub_self, putT, putS, if_true, and_self, sz0, sz1, sz2, sz3, sz5, sz6, wipeD, Nat.reduceAdd, Nat.reduceSub, lstOf, gl]
end
end Cr
namespace K64
open PySem PySem.Spec PyProof.Rows L2 Cr
def top (i : Nat) : Stmt := PySem.Challenge.pw_ontoworks_k64_right.main.body.getD i (.Pass ⟨0, 0, 0, 0⟩)
def b_Store___init__ : CB := (.cons (.fset (.var 0) "nodes" (.bx (.disp (.cons (.tup (.cons (.cst (.int 0)) (.cons (.cst (.int 0)) (.cons (.cst (.int 0)) .nil)))) (.cons (.tup (.cons (.cst (.int 0)) (.cons (.cst (.int 1)) (.cons (.cst (.int 1)) .nil)))) .nil))))) (.cons (.fset (.var 0) "places" .dnT) .nil))
def d_Store___init__ : Df := ⟨"__init__", ["self"], ["self"], b_Store___init__, false, true⟩
def b_Store_make : CB := (.cons (.ife (.cmp .Eq (.var 2) (.var 3)) (.cons (.ret (.var 2)) .nil) .nil) (.cons (.set 4 (.tup (.cons (.var 1) (.cons (.var 2) (.cons (.var 3) .nil))))) (.cons (.ife (.cmp .NotIn (.var 4) (.fld (.var 0) "places")) (.cons (.sub (.fld (.var 0) "places") (.var 4) (.blt .len (.cons (.fld (.var 0) "nodes") .nil))) (.cons (.exp (.mth .append (.fld (.var 0) "nodes") (.cons (.var 4) .nil))) .nil)) .nil) (.cons (.ret (.idx (.fld (.var 0) "places") (.var 4))) .nil))))
def d_Store_make : Df := ⟨"make", ["self", "variable", "without", "with_it"], ["self", "variable", "without", "with_it", "key"], b_Store_make, true, true⟩
def b_Store_top : CB := (.cons (.ife (.cmp .Lt (.var 1) (.cst (.int 2))) (.cons (.ret (.idx (.idx (.fld (.var 0) "nodes") (.var 2)) (.cst (.int 0)))) .nil) .nil) (.cons (.ife (.cmp .Lt (.var 2) (.cst (.int 2))) (.cons (.ret (.idx (.idx (.fld (.var 0) "nodes") (.var 1)) (.cst (.int 0)))) .nil) .nil) (.cons (.ret (.blt .min (.cons (.idx (.idx (.fld (.var 0) "nodes") (.var 1)) (.cst (.int 0))) (.cons (.idx (.idx (.fld (.var 0) "nodes") (.var 2)) (.cst (.int 0))) .nil)))) .nil)))
def d_Store_top : Df := ⟨"top", ["self", "first", "second"], ["self", "first", "second"], b_Store_top, true, true⟩
def b_Store_side : CB := (.cons (.ife (.or (.cmp .Lt (.var 1) (.cst (.int 2))) (.cmp .NotEq (.idx (.idx (.fld (.var 0) "nodes") (.var 1)) (.cst (.int 0))) (.var 2))) (.cons (.ret (.var 1)) .nil) .nil) (.cons (.ife (.tru (.var 3)) (.cons (.ret (.idx (.idx (.fld (.var 0) "nodes") (.var 1)) (.cst (.int 2)))) .nil) .nil) (.cons (.ret (.idx (.idx (.fld (.var 0) "nodes") (.var 1)) (.cst (.int 1)))) .nil)))
def d_Store_side : Df := ⟨"side", ["self", "node", "variable", "yes"], ["self", "node", "variable", "yes"], b_Store_side, true, true⟩
def b_Store_negated : CB := (.cons (.ife (.cmp .Lt (.var 1) (.cst (.int 2))) (.cons (.ret (.bin .Sub (.cst (.int 1)) (.var 1))) .nil) .nil) (.cons (.ife (.cmp .NotIn (.var 1) (.var 2)) (.cons (.setT [3, 4, 5] (.idx (.fld (.var 0) "nodes") (.var 1))) (.cons (.sub (.var 2) (.var 1) (.mcl 0 "make" 1 (.var 0) (.cons (.var 3) (.cons (.mcl 0 "negated" 4 (.var 0) (.cons (.var 4) (.cons (.var 2) .nil))) (.cons (.mcl 0 "negated" 4 (.var 0) (.cons (.var 5) (.cons (.var 2) .nil))) .nil))))) .nil)) .nil) (.cons (.ret (.idx (.var 2) (.var 1))) .nil)))
def d_Store_negated : Df := ⟨"negated", ["self", "node", "memo"], ["self", "node", "memo", "variable", "without", "with_it"], b_Store_negated, true, true⟩
def b_Store_joined : CB := (.cons (.ife (.or (.cmp .Eq (.var 1) (.cst (.int 0))) (.cmp .Eq (.var 2) (.cst (.int 0)))) (.cons (.ret (.cst (.int 0))) .nil) .nil) (.cons (.ife (.or (.cmp .Eq (.var 1) (.cst (.int 1))) (.cmp .Eq (.var 1) (.var 2))) (.cons (.ret (.var 2)) .nil) .nil) (.cons (.ife (.cmp .Eq (.var 2) (.cst (.int 1))) (.cons (.ret (.var 1)) .nil) .nil) (.cons (.set 4 (.tup (.cons (.blt .min (.cons (.var 1) (.cons (.var 2) .nil))) (.cons (.blt .max (.cons (.var 1) (.cons (.var 2) .nil))) .nil)))) (.cons (.ife (.cmp .NotIn (.var 4) (.var 3)) (.cons (.set 5 (.mcl 0 "top" 2 (.var 0) (.cons (.var 1) (.cons (.var 2) .nil)))) (.cons (.set 6 (.mcl 0 "joined" 5 (.var 0) (.cons (.mcl 0 "side" 3 (.var 0) (.cons (.var 1) (.cons (.var 5) (.cons (.cst (.bl false)) .nil)))) (.cons (.mcl 0 "side" 3 (.var 0) (.cons (.var 2) (.cons (.var 5) (.cons (.cst (.bl false)) .nil)))) (.cons (.var 3) .nil))))) (.cons (.set 7 (.mcl 0 "joined" 5 (.var 0) (.cons (.mcl 0 "side" 3 (.var 0) (.cons (.var 1) (.cons (.var 5) (.cons (.cst (.bl true)) .nil)))) (.cons (.mcl 0 "side" 3 (.var 0) (.cons (.var 2) (.cons (.var 5) (.cons (.cst (.bl true)) .nil)))) (.cons (.var 3) .nil))))) (.cons (.sub (.var 3) (.var 4) (.mcl 0 "make" 1 (.var 0) (.cons (.var 5) (.cons (.var 6) (.cons (.var 7) .nil))))) .nil)))) .nil) (.cons (.ret (.idx (.var 3) (.var 4))) .nil))))))
def d_Store_joined : Df := ⟨"joined", ["self", "first", "second", "memo"], ["self", "first", "second", "memo", "key", "at", "without", "with_it"], b_Store_joined, true, true⟩
def b_Store_no : CB := (.cons (.ret (.mcl 0 "negated" 4 (.var 0) (.cons (.var 1) (.cons .dnK .nil)))) .nil)
def d_Store_no : Df := ⟨"no", ["self", "node"], ["self", "node"], b_Store_no, true, true⟩
def b_Store_and_also : CB := (.cons (.ret (.mcl 0 "joined" 5 (.var 0) (.cons (.var 1) (.cons (.var 2) (.cons .dnT .nil))))) .nil)
def d_Store_and_also : Df := ⟨"and_also", ["self", "first", "second"], ["self", "first", "second"], b_Store_and_also, true, true⟩
def b_Store_taken_in : CB := (.cons (.set 2 (.bx (.disp (.cons (.cst (.int 0)) (.cons (.cst (.int 1)) .nil))))) (.cons (.for_ (.tp [3, 4, 5]) (.seq (.idx (.var 1) (.cst (.int 0)))) (.cons (.exp (.mth .append (.var 2) (.cons (.mcl 0 "make" 1 (.var 0) (.cons (.var 3) (.cons (.idx (.var 2) (.var 4)) (.cons (.idx (.var 2) (.var 5)) .nil)))) .nil))) .nil)) (.cons (.ret (.idx (.var 2) (.idx (.var 1) (.cst (.int 1))))) .nil)))
def d_Store_taken_in : Df := ⟨"taken_in", ["self", "condition"], ["self", "condition", "numbers", "variable", "without", "with_it"], b_Store_taken_in, true, true⟩
def b_Store_told : CB := (.cons (.set 2 (.bx (.disp .nil))) (.cons (.set 3 (.dlt [(0, 0), (1, 1)])) (.cons (.exp (.mcl 0 "written" 10 (.var 0) (.cons (.var 1) (.cons (.var 2) (.cons (.var 3) .nil))))) (.cons (.ret (.tup (.cons (.blt .tuple (.cons (.var 2) .nil)) (.cons (.idx (.var 3) (.var 1)) .nil)))) .nil))))
def d_Store_told : Df := ⟨"told", ["self", "node"], ["self", "node", "rows", "numbers"], b_Store_told, true, true⟩
def b_Store_written : CB := (.cons (.ife (.cmp .In (.var 1) (.var 3)) (.cons (.retN) .nil) .nil) (.cons (.setT [4, 5, 6] (.idx (.fld (.var 0) "nodes") (.var 1))) (.cons (.exp (.mcl 0 "written" 10 (.var 0) (.cons (.var 5) (.cons (.var 2) (.cons (.var 3) .nil))))) (.cons (.exp (.mcl 0 "written" 10 (.var 0) (.cons (.var 6) (.cons (.var 2) (.cons (.var 3) .nil))))) (.cons (.exp (.mth .append (.var 2) (.cons (.tup (.cons (.var 4) (.cons (.idx (.var 3) (.var 5)) (.cons (.idx (.var 3) (.var 6)) .nil)))) .nil))) (.cons (.sub (.var 3) (.var 1) (.bin .Add (.blt .len (.cons (.var 2) .nil)) (.cst (.int 1)))) .nil))))))
def d_Store_written : Df := ⟨"written", ["self", "node", "rows", "numbers"], ["self", "node", "rows", "numbers", "variable", "without", "with_it"], b_Store_written, true, true⟩
def b_variable : CB := (.cons (.ret (.tup (.cons (.tup (.cons (.tup (.cons (.var 0) (.cons (.cst (.int 0)) (.cons (.cst (.int 1)) .nil)))) .nil)) (.cons (.cst (.int 2)) .nil)))) .nil)
def d_variable : Df := ⟨"variable", ["number"], ["number"], b_variable, true, false⟩
def b_negation : CB := (.cons (.set 1 (.new 0)) (.cons (.ret (.mcl 0 "told" 9 (.var 1) (.cons (.mcl 0 "no" 6 (.var 1) (.cons (.mcl 0 "taken_in" 8 (.var 1) (.cons (.var 0) .nil)) .nil)) .nil))) .nil))
def d_negation : Df := ⟨"negation", ["condition"], ["condition", "store"], b_negation, true, false⟩
def b_both : CB := (.cons (.set 2 (.new 0)) (.cons (.ret (.mcl 0 "told" 9 (.var 2) (.cons (.mcl 0 "and_also" 7 (.var 2) (.cons (.mcl 0 "taken_in" 8 (.var 2) (.cons (.var 0) .nil)) (.cons (.mcl 0 "taken_in" 8 (.var 2) (.cons (.var 1) .nil)) .nil))) .nil))) .nil))
def d_both : Df := ⟨"both", ["first", "second"], ["first", "second", "store"], b_both, true, false⟩
def b_lowest : CB := (.cons (.set 2 (.blt .gcd (.cons (.var 0) (.cons (.var 1) .nil)))) (.cons (.ret (.tup (.cons (.bin .FloorDiv (.var 0) (.var 2)) (.cons (.bin .FloorDiv (.var 1) (.var 2)) .nil)))) .nil))
def d_lowest : Df := ⟨"lowest", ["numerator", "denominator"], ["numerator", "denominator", "common"], b_lowest, true, false⟩
def b_plus : CB := (.cons (.ret (.call 14 (.cons (.bin .Add (.bin .Mult (.idx (.var 0) (.cst (.int 0))) (.idx (.var 1) (.cst (.int 1)))) (.bin .Mult (.idx (.var 1) (.cst (.int 0))) (.idx (.var 0) (.cst (.int 1))))) (.cons (.bin .Mult (.idx (.var 0) (.cst (.int 1))) (.idx (.var 1) (.cst (.int 1)))) .nil)))) .nil)
def d_plus : Df := ⟨"plus", ["first", "second"], ["first", "second"], b_plus, true, false⟩
def b_times : CB := (.cons (.ret (.call 14 (.cons (.bin .Mult (.idx (.var 0) (.cst (.int 0))) (.idx (.var 1) (.cst (.int 0)))) (.cons (.bin .Mult (.idx (.var 0) (.cst (.int 1))) (.idx (.var 1) (.cst (.int 1)))) .nil)))) .nil)
def d_times : Df := ⟨"times", ["first", "second"], ["first", "second"], b_times, true, false⟩
def b_over : CB := (.cons (.ret (.call 14 (.cons (.bin .Mult (.idx (.var 0) (.cst (.int 0))) (.idx (.var 1) (.cst (.int 1)))) (.cons (.bin .Mult (.idx (.var 0) (.cst (.int 1))) (.idx (.var 1) (.cst (.int 0)))) .nil)))) .nil)
def d_over : Df := ⟨"over", ["first", "second"], ["first", "second"], b_over, true, false⟩
def b_chance : CB := (.cons (.set 2 (.bx (.disp (.cons (.tup (.cons (.cst (.int 0)) (.cons (.cst (.int 1)) .nil))) (.cons (.tup (.cons (.cst (.int 1)) (.cons (.cst (.int 1)) .nil))) .nil))))) (.cons (.for_ (.tp [3, 4, 5]) (.seq (.idx (.var 0) (.cst (.int 0)))) (.cons (.set 6 (.call 16 (.cons (.call 14 (.cons (.bin .Sub (.glb 0) (.idx (.var 1) (.var 3))) (.cons (.glb 0) .nil))) (.cons (.idx (.var 2) (.var 4)) .nil)))) (.cons (.exp (.mth .append (.var 2) (.cons (.call 15 (.cons (.var 6) (.cons (.call 16 (.cons (.call 14 (.cons (.idx (.var 1) (.var 3)) (.cons (.glb 0) .nil))) (.cons (.idx (.var 2) (.var 5)) .nil))) .nil))) .nil))) .nil))) (.cons (.ret (.idx (.var 2) (.idx (.var 0) (.cst (.int 1))))) .nil)))
def d_chance : Df := ⟨"chance", ["condition", "chances"], ["condition", "chances", "rows", "place", "without", "with_it", "left"], b_chance, true, false⟩
def b_right : CB := (.cons (.set 2 (.call 12 (.cons (.var 0) .nil))) (.cons (.set 3 (.call 18 (.cons (.var 2) (.cons (.var 1) .nil)))) (.cons (.ife (.cmp .Eq (.idx (.var 3) (.cst (.int 0))) (.cst (.int 0))) (.cons (.ret (.cst .non)) .nil) .nil) (.cons (.set 4 (.bx (.disp .nil))) (.cons (.for_ (.nm 5) (.rng1 (.blt .len (.cons (.var 1) .nil))) (.cons (.exp (.mth .append (.var 4) (.cons (.call 17 (.cons (.call 18 (.cons (.call 13 (.cons (.var 2) (.cons (.call 11 (.cons (.var 5) .nil)) .nil))) (.cons (.var 1) .nil))) (.cons (.var 3) .nil))) .nil))) .nil)) (.cons (.ret (.blt .tuple (.cons (.var 4) .nil))) .nil))))))
def d_right : Df := ⟨"right", ["condition", "chances"], ["condition", "chances", "fails", "whole", "found", "place"], b_right, true, false⟩
def b__law_cell : CB := (.cons (.ife (.cmp .Lt (.var 1) (.blt .len (.cons (.var 0) .nil))) (.cons (.ret (.blt .int (.cons (.idx (.var 0) (.var 1)) .nil))) .nil) .nil) (.cons (.ret (.cst (.int 0))) .nil))
def d__law_cell : Df := ⟨"_law_cell", ["_law_script", "_law_k"], ["_law_script", "_law_k"], b__law_cell, true, false⟩
def b__law_draws : CB := (.cons (.set 3 (.call 20 (.cons (.var 0) (.cons (.var 1) .nil)))) (.cons (.set 4 (.cst (.int 0))) (.cons (.ife (.cmp .GtE (.var 3) (.bin .Pow (.cst (.int 10)) (.cst (.int 18)))) (.cons (.set 4 (.bin .FloorDiv (.var 3) (.bin .Pow (.cst (.int 10)) (.cst (.int 18))))) .nil) .nil) (.cons (.set 5 (.bin .Mod (.blt .int (.cons (.bin .Add (.bin .Add (.bin .Mult (.var 3) (.cst (.int 48271))) (.bin .Mult (.var 1) (.cst (.int 69621)))) (.cst (.int 12345))) .nil)) (.cst (.int 2147483647)))) (.cons (.set 6 (.bx (.disp .nil))) (.cons (.for_ (.nm 7) (.rng1 (.var 2)) (.cons (.set 5 (.bin .Mod (.blt .int (.cons (.bin .Add (.bin .Add (.bin .Mult (.var 5) (.cst (.int 16807))) (.bin .Mult (.var 7) (.cst (.int 101)))) (.cst (.int 7))) .nil)) (.cst (.int 2147483647)))) (.cons (.ife (.cmp .Gt (.var 4) (.cst (.int 0))) (.cons (.exp (.mth .append (.var 6) (.cons (.bin .Mod (.blt .int (.cons (.var 4) .nil)) (.cst (.int 997))) .nil))) (.cons (.set 4 (.bin .FloorDiv (.var 4) (.cst (.int 997)))) .nil)) (.cons (.exp (.mth .append (.var 6) (.cons (.bin .Mod (.blt .int (.cons (.bin .FloorDiv (.var 5) (.cst (.int 1009))) .nil)) (.cst (.int 997))) .nil))) .nil)) .nil))) (.cons (.ret (.var 6)) .nil)))))))
def d__law_draws : Df := ⟨"_law_draws", ["_law_script", "_law_k", "_law_count"], ["_law_script", "_law_k", "_law_count", "_law_cell_here", "_law_rest", "_law_seed", "_law_found", "_law_at"], b__law_draws, false, false⟩
def b__law_take : CB := (.cons (.ife (.not (.tru (.var 0))) (.cons (.ret (.cst (.int 0))) .nil) .nil) (.cons (.ret (.bin .Mod (.blt .int (.cons (.mth .pop (.var 0) (.cons (.cst (.int 0)) .nil)) .nil)) (.var 1))) .nil))
def d__law_take : Df := ⟨"_law_take", ["_law_draws_here", "_law_many"], ["_law_draws_here", "_law_many"], b__law_take, true, false⟩
def b__law_number : CB := (.cons (.ret (.andv (.isi (.var 0) .int) (.notv (.isi (.var 0) .bool)))) .nil)
def d__law_number : Df := ⟨"_law_number", ["_law_actual"], ["_law_actual"], b__law_number, true, false⟩
def b__law_subsets : CB := (.cons (.set 1 (.pl (.disp (.cons (.tup .nil) .nil)))) (.cons (.for_ (.nm 2) (.seq (.var 0)) (.cons (.set 3 (.bx (.disp .nil))) (.cons (.for_ (.nm 4) (.seq (.var 1)) (.cons (.exp (.mth .append (.var 3) (.cons (.bin .Add (.var 4) (.tup (.cons (.var 2) .nil))) .nil))) .nil)) (.cons (.set 1 (.pl (.cat (.var 1) (.var 3)))) .nil)))) (.cons (.ret (.var 1)) .nil)))
def d__law_subsets : Df := ⟨"_law_subsets", ["_law_places"], ["_law_places", "_law_rows", "_law_place", "_law_longer", "_law_row"], b__law_subsets, true, false⟩
def b__law_inside : CB := (.cons (.ret (.blt .all (.cons (.pl (.comp [("_law_place", 2)] (.nm 2) (.seq (.var 0)) .no (.cmp .In (.var 2) (.var 1)))) .nil))) .nil)
def d__law_inside : Df := ⟨"_law_inside", ["_law_row", "_law_other"], ["_law_row", "_law_other", "_law_place"], b__law_inside, true, false⟩
def b__law_table : CB := (.cons (.set 2 (.bx (.disp .nil))) (.cons (.for_ (.nm 3) (.rng1 (.bin .Pow (.cst (.int 2)) (.cst (.int 5)))) (.cons (.set 6 (.pl (.comp [("_law_place", 7)] (.nm 7) (.rng1 (.var 1)) (.yes (.cmp .Eq (.bin .Mod (.bin .FloorDiv (.var 3) (.idx (.tup (.cons (.cst (.int 1)) (.cons (.cst (.int 2)) (.cons (.cst (.int 4)) (.cons (.cst (.int 8)) (.cons (.cst (.int 16)) .nil)))))) (.var 7))) (.cst (.int 2))) (.cst (.int 1)))) (.var 7)))) (.cons (.ife (.cmp .Lt (.var 3) (.idx (.tup (.cons (.cst (.int 1)) (.cons (.cst (.int 2)) (.cons (.cst (.int 4)) (.cons (.cst (.int 8)) (.cons (.cst (.int 16)) (.cons (.cst (.int 32)) .nil))))))) (.var 1))) (.cons (.exp (.mth .append (.var 2) (.cons (.blt .any (.cons (.pl (.comp [("_law_row", 8)] (.nm 8) (.seq (.var 0)) .no (.call 25 (.cons (.var 8) (.cons (.var 6) .nil))))) .nil)) .nil))) .nil) .nil) .nil))) (.cons (.set 4 (.bx (.disp .nil))) (.cons (.set 5 (.call 27 (.cons (.var 2) (.cons (.cst (.int 0)) (.cons (.var 4) .nil))))) (.cons (.ret (.tup (.cons (.blt .tuple (.cons (.var 4) .nil)) (.cons (.var 5) .nil)))) .nil)))))
def d__law_table : Df := ⟨"_law_table", ["_law_rows", "_law_many"], ["_law_rows", "_law_many", "_law_truth", "_law_code", "_law_nodes", "_law_root", "_law_members", "_law_place", "_law_row"], b__law_table, true, false⟩
def b__law_node : CB := (.cons (.ife (.tru (.blt .all (.cons (.var 0) .nil))) (.cons (.ret (.cst (.int 1))) .nil) .nil) (.cons (.ife (.not (.tru (.blt .any (.cons (.var 0) .nil)))) (.cons (.ret (.cst (.int 0))) .nil) .nil) (.cons (.set 3 (.call 27 (.cons (.pl (.slk (.var 0) 0 2)) (.cons (.bin .Add (.var 1) (.cst (.int 1))) (.cons (.var 2) .nil))))) (.cons (.set 4 (.call 27 (.cons (.pl (.slk (.var 0) 1 2)) (.cons (.bin .Add (.var 1) (.cst (.int 1))) (.cons (.var 2) .nil))))) (.cons (.ife (.cmp .Eq (.var 3) (.var 4)) (.cons (.ret (.var 3)) .nil) .nil) (.cons (.set 5 (.tup (.cons (.var 1) (.cons (.var 3) (.cons (.var 4) .nil))))) (.cons (.ife (.cmp .NotIn (.var 5) (.var 2)) (.cons (.exp (.mth .append (.var 2) (.cons (.var 5) .nil))) .nil) .nil) (.cons (.ret (.bin .Add (.mth .index (.var 2) (.cons (.var 5) .nil)) (.cst (.int 2)))) .nil))))))))
def d__law_node : Df := ⟨"_law_node", ["_law_truth", "_law_place", "_law_nodes"], ["_law_truth", "_law_place", "_law_nodes", "_law_without", "_law_with_it", "_law_row"], b__law_node, true, false⟩
def b__law_family : CB := (.cons (.set 3 (.bx (.disp .nil))) (.cons (.set 4 (.call 21 (.cons (.var 0) (.cons (.var 1) (.cons (.cst (.int 40)) .nil))))) (.cons (.for_ (.nm 5) (.rng1 (.call 22 (.cons (.var 4) (.cons (.cst (.int 6)) .nil)))) (.cons (.exp (.mth .append (.var 3) (.cons (.blt .tuple (.cons (.pl (.comp [("_law_place", 6)] (.nm 6) (.rng1 (.var 2)) (.yes (.cmp .Lt (.call 22 (.cons (.var 4) (.cons (.cst (.int 5)) .nil))) (.cst (.int 2)))) (.var 6))) .nil)) .nil))) .nil)) (.cons (.ret (.var 3)) .nil))))
def d__law_family : Df := ⟨"_law_family", ["_law_script", "_law_first", "_law_many"], ["_law_script", "_law_first", "_law_many", "_law_rows", "_law_draws_here", "_law_k", "_law_place"], b__law_family, true, false⟩
def b__law_holds : CB := (.cons (.ret (.blt .any (.cons (.pl (.comp [("_law_row", 2)] (.nm 2) (.seq (.var 0)) .no (.call 25 (.cons (.var 2) (.cons (.var 1) .nil))))) .nil))) .nil)
def d__law_holds : Df := ⟨"_law_holds", ["_law_rows", "_law_members"], ["_law_rows", "_law_members", "_law_row"], b__law_holds, true, false⟩
def b__law_gcd : CB := (.cons (.for_ (.nm 2) (.rng1 (.cst (.int 4000))) (.cons (.ife (.cmp .Eq (.var 1) (.cst (.int 0))) (.cons (.brk) .nil) .nil) (.cons (.set 3 (.bin .Mod (.blt .int (.cons (.var 0) .nil)) (.var 1))) (.cons (.set 0 (.var 1)) (.cons (.set 1 (.var 3)) .nil))))) (.cons (.ret (.var 0)) .nil))
def d__law_gcd : Df := ⟨"_law_gcd", ["_law_first", "_law_second"], ["_law_first", "_law_second", "_law_k", "_law_rest"], b__law_gcd, true, false⟩
def b__law_fraction : CB := (.cons (.ife (.or (.not (.tru (.isi (.var 0) .tuple))) (.cmp .NotEq (.blt .len (.cons (.var 0) .nil)) (.cst (.int 2)))) (.cons (.ret (.cst (.bl false))) .nil) .nil) (.cons (.ife (.or (.not (.tru (.call 23 (.cons (.idx (.var 0) (.cst (.int 0))) .nil)))) (.or (.not (.tru (.call 23 (.cons (.idx (.var 0) (.cst (.int 1))) .nil)))) (.cmp .Lt (.idx (.var 0) (.cst (.int 1))) (.cst (.int 1))))) (.cons (.ret (.cst (.bl false))) .nil) .nil) (.cons (.ife (.cmp .NotEq (.bin .Mult (.idx (.var 0) (.cst (.int 0))) (.var 2)) (.bin .Mult (.var 1) (.idx (.var 0) (.cst (.int 1))))) (.cons (.ret (.cst (.bl false))) .nil) .nil) (.cons (.ret (.cmp .Eq (.call 30 (.cons (.blt .abs (.cons (.idx (.var 0) (.cst (.int 0))) .nil)) (.cons (.idx (.var 0) (.cst (.int 1))) .nil))) (.cst (.int 1)))) .nil))))
def d__law_fraction : Df := ⟨"_law_fraction", ["_law_actual", "_law_numerator", "_law_denominator"], ["_law_actual", "_law_numerator", "_law_denominator"], b__law_fraction, true, false⟩
def b__law_cases : CB := (.cons (.set 4 (.cst (.int 0))) (.cons (.for_ (.nm 5) (.seq (.call 24 (.cons (.blt .tuple (.cons (.pl (.lrg (.blt .len (.cons (.var 1) .nil)))) .nil)) .nil))) (.cons (.ife (.and (.cmp .Eq (.call 29 (.cons (.var 0) (.cons (.var 5) .nil))) (.var 2)) (.tru (.call 25 (.cons (.var 3) (.cons (.var 5) .nil))))) (.cons (.set 6 (.cst (.int 1))) (.cons (.for_ (.nm 7) (.rng1 (.blt .len (.cons (.var 1) .nil))) (.cons (.ife (.cmp .In (.var 7) (.var 5)) (.cons (.set 6 (.bin .Mult (.var 6) (.idx (.var 1) (.var 7)))) .nil) (.cons (.set 6 (.bin .Mult (.var 6) (.bin .Sub (.cst (.int 1000)) (.idx (.var 1) (.var 7))))) .nil)) .nil)) (.cons (.set 4 (.bin .Add (.var 4) (.var 6))) .nil))) .nil) .nil)) (.cons (.ret (.var 4)) .nil)))
def d__law_cases : Df := ⟨"_law_cases", ["_law_rows", "_law_chances_here", "_law_wanted", "_law_needed"], ["_law_rows", "_law_chances_here", "_law_wanted", "_law_needed", "_law_total", "_law_row", "_law_cases_here", "_law_place"], b__law_cases, true, false⟩
def b__law_chances : CB := (.cons (.set 3 (.call 21 (.cons (.var 0) (.cons (.var 1) (.cons (.cst (.int 20)) .nil))))) (.cons (.set 4 (.bx (.disp .nil))) (.cons (.for_ (.nm 5) (.rng1 (.var 2)) (.cons (.set 6 (.call 22 (.cons (.var 3) (.cons (.cst (.int 6)) .nil)))) (.cons (.exp (.mth .append (.var 4) (.cons (.idx (.tup (.cons (.cst (.int 0)) (.cons (.cst (.int 1000)) (.cons (.cst (.int 500)) (.cons (.cst (.int 250)) (.cons (.bin .Add (.cst (.int 1)) (.call 22 (.cons (.var 3) (.cons (.cst (.int 9)) .nil)))) (.cons (.bin .Mod (.blt .int (.cons (.call 20 (.cons (.var 0) (.cons (.bin .Add (.bin .Add (.var 1) (.cst (.int 1))) (.var 5)) .nil))) .nil)) (.cst (.int 1001))) .nil))))))) (.var 6)) .nil))) .nil))) (.cons (.ret (.blt .tuple (.cons (.var 4) .nil))) .nil))))
def d__law_chances : Df := ⟨"_law_chances", ["_law_script", "_law_k", "_law_many"], ["_law_script", "_law_k", "_law_many", "_law_draws_here", "_law_rows", "_law_place", "_law_kind"], b__law_chances, true, false⟩
def b_law : CB := (.cons (.set 1 (.bin .Add (.cst (.int 1)) (.bin .Mod (.blt .int (.cons (.call 20 (.cons (.var 0) (.cons (.cst (.int 0)) .nil))) .nil)) (.cst (.int 5))))) (.cons (.set 2 (.call 28 (.cons (.var 0) (.cons (.cst (.int 1)) (.cons (.var 1) .nil))))) (.cons (.set 3 (.call 33 (.cons (.var 0) (.cons (.cst (.int 3)) (.cons (.var 1) .nil))))) (.cons (.set 4 (.call 19 (.cons (.call 26 (.cons (.var 2) (.cons (.var 1) .nil))) (.cons (.var 3) .nil)))) (.cons (.set 5 (.call 32 (.cons (.var 2) (.cons (.var 3) (.cons (.cst (.bl false)) (.cons (.tup .nil) .nil)))))) (.cons (.ife (.cmp .Eq (.var 5) (.cst (.int 0))) (.cons (.ret (.cmp .Is (.var 4) (.cst .non))) .nil) .nil) (.cons (.ife (.or (.not (.tru (.isi (.var 4) .tuple))) (.cmp .NotEq (.blt .len (.cons (.var 4) .nil)) (.var 1))) (.cons (.ret (.cst (.bl false))) .nil) .nil) (.cons (.for_ (.nm 6) (.rng1 (.var 1)) (.cons (.ife (.not (.tru (.call 31 (.cons (.idx (.var 4) (.var 6)) (.cons (.call 32 (.cons (.var 2) (.cons (.var 3) (.cons (.cst (.bl false)) (.cons (.tup (.cons (.var 6) .nil)) .nil))))) (.cons (.var 5) .nil)))))) (.cons (.ret (.cst (.bl false))) .nil) .nil) .nil)) (.cons (.ret (.cst (.bl true))) .nil)))))))))
def d_law : Df := ⟨"law", ["_law_script"], ["_law_script", "_law_many", "_law_rows", "_law_chances_here", "_law_actual", "_law_whole", "_law_place"], b_law, true, false⟩
def T : Tb := ⟨[d_Store___init__, d_Store_make, d_Store_top, d_Store_side, d_Store_negated, d_Store_joined, d_Store_no, d_Store_and_also, d_Store_taken_in, d_Store_told, d_Store_written, d_variable, d_negation, d_both, d_lowest, d_plus, d_times, d_over, d_chance, d_right, d__law_cell, d__law_draws, d__law_take, d__law_number, d__law_subsets, d__law_inside, d__law_table, d__law_node, d__law_family, d__law_holds, d__law_gcd, d__law_fraction, d__law_cases, d__law_chances, d_law], [("WHOLE", (.int 1000))], ["abs", "all", "any", "bool", "int", "isinstance", "len", "list", "max", "min", "range", "tuple"], true, [⟨"Store", ["nodes", "places"], [("make", 1), ("top", 2), ("side", 3), ("negated", 4), ("joined", 5), ("no", 6), ("and_also", 7), ("taken_in", 8), ("told", 9), ("written", 10)], 0⟩]⟩
theorem c_Store___init__ : dfB T d_Store___init__ (inClass (top 3) 0) = true := by decide +kernel
theorem c_Store_make : dfB T d_Store_make (inClass (top 3) 1) = true := by decide +kernel
theorem c_Store_top : dfB T d_Store_top (inClass (top 3) 3) = true := by decide +kernel
theorem c_Store_side : dfB T d_Store_side (inClass (top 3) 4) = true := by decide +kernel
theorem c_Store_negated : dfB T d_Store_negated (inClass (top 3) 5) = true := by decide +kernel
theorem c_Store_joined : dfB T d_Store_joined (inClass (top 3) 6) = true := by decide +kernel
theorem c_Store_no : dfB T d_Store_no (inClass (top 3) 7) = true := by decide +kernel
theorem c_Store_and_also : dfB T d_Store_and_also (inClass (top 3) 8) = true := by decide +kernel
theorem c_Store_taken_in : dfB T d_Store_taken_in (inClass (top 3) 15) = true := by decide +kernel
theorem c_Store_told : dfB T d_Store_told (inClass (top 3) 16) = true := by decide +kernel
theorem c_Store_written : dfB T d_Store_written (inClass (top 3) 17) = true := by decide +kernel
theorem c_variable : dfB T d_variable (top 4) = true := by decide +kernel
theorem c_negation : dfB T d_negation (top 5) = true := by decide +kernel
theorem c_both : dfB T d_both (top 6) = true := by decide +kernel
theorem c_lowest : dfB T d_lowest (top 8) = true := by decide +kernel
theorem c_plus : dfB T d_plus (top 9) = true := by decide +kernel
theorem c_times : dfB T d_times (top 10) = true := by decide +kernel
theorem c_over : dfB T d_over (top 11) = true := by decide +kernel
theorem c_chance : dfB T d_chance (top 14) = true := by decide +kernel
theorem c_right : dfB T d_right (top 15) = true := by decide +kernel
theorem c__law_cell : dfB T d__law_cell (top 17) = true := by decide +kernel
theorem c__law_draws : dfB T d__law_draws (top 18) = true := by decide +kernel
theorem c__law_take : dfB T d__law_take (top 19) = true := by decide +kernel
theorem c__law_number : dfB T d__law_number (top 20) = true := by decide +kernel
theorem c__law_subsets : dfB T d__law_subsets (top 21) = true := by decide +kernel
theorem c__law_inside : dfB T d__law_inside (top 22) = true := by decide +kernel
theorem c__law_table : dfB T d__law_table (top 23) = true := by decide +kernel
theorem c__law_node : dfB T d__law_node (top 24) = true := by decide +kernel
theorem c__law_family : dfB T d__law_family (top 25) = true := by decide +kernel
theorem c__law_holds : dfB T d__law_holds (top 26) = true := by decide +kernel
theorem c__law_gcd : dfB T d__law_gcd (top 27) = true := by decide +kernel
theorem c__law_fraction : dfB T d__law_fraction (top 28) = true := by decide +kernel
theorem c__law_cases : dfB T d__law_cases (top 29) = true := by decide +kernel
theorem c__law_chances : dfB T d__law_chances (top 30) = true := by decide +kernel
theorem c_law : dfB T d_law (top 31) = true := by decide +kernel
end K64
namespace K64
open PySem PySem.Spec PyProof.Rows L2 Cr
theorem h_lowest : Has T 14 Blowest 2 3 true := ⟨d_lowest, rfl, rfl, rfl, rfl, rfl⟩
theorem h_plus : Has T 15 (Bplus 14) 2 2 true := ⟨d_plus, rfl, rfl, rfl, rfl, rfl⟩
theorem h_times : Has T 16 (Btimes 14) 2 2 true := ⟨d_times, rfl, rfl, rfl, rfl, rfl⟩
theorem h_over : Has T 17 (Bover 14) 2 2 true := ⟨d_over, rfl, rfl, rfl, rfl, rfl⟩
theorem h_chance : Has T 18 (Bchance 14 15 16) 2 7 true := ⟨d_chance, rfl, rfl, rfl, rfl, rfl⟩
theorem h_right : Has T 19 (Bright 12 17 18 13 11) 2 6 true := ⟨d_right, rfl, rfl, rfl, rfl, rfl⟩
theorem h_variable : Has T 11 Bvar 1 1 true := ⟨d_variable, rfl, rfl, rfl, rfl, rfl⟩
theorem h_negation : Has T 12 (Bnegation 9 6 8) 1 2 true := ⟨d_negation, rfl, rfl, rfl, rfl, rfl⟩
theorem h_both : Has T 13 (Bboth 9 7 8) 2 3 true := ⟨d_both, rfl, rfl, rfl, rfl, rfl⟩
theorem h_store : StH T 0 1 2 3 4 5 6 7 8 9 10 := ⟨⟨d_Store___init__, rfl, rfl, rfl, rfl, rfl⟩, ⟨d_Store_make, rfl, rfl, rfl, rfl, rfl⟩, ⟨d_Store_top, rfl, rfl, rfl, rfl, rfl⟩, ⟨d_Store_side, rfl, rfl, rfl, rfl, rfl⟩, ⟨d_Store_negated, rfl, rfl, rfl, rfl, rfl⟩, ⟨d_Store_joined, rfl, rfl, rfl, rfl, rfl⟩,
  ⟨d_Store_no, rfl, rfl, rfl, rfl, rfl⟩, ⟨d_Store_and_also, rfl, rfl, rfl, rfl, rfl⟩, ⟨d_Store_taken_in, rfl, rfl, rfl, rfl, rfl⟩, ⟨d_Store_told, rfl, rfl, rfl, rfl, rfl⟩, ⟨d_Store_written, rfl, rfl, rfl, rfl, rfl⟩, rfl, by decide +kernel, by decide +kernel⟩
theorem h_cell : Has T 20 Bcell 2 2 true := ⟨d__law_cell, rfl, rfl, rfl, rfl, rfl⟩
theorem h_draws : Has T 21 (Bdraws 20) 3 8 false := ⟨d__law_draws, rfl, rfl, rfl, rfl, rfl⟩
theorem h_take : Has T 22 Btake 2 2 true := ⟨d__law_take, rfl, rfl, rfl, rfl, rfl⟩
theorem h_number : Has T 23 Bnumber 1 1 true := ⟨d__law_number, rfl, rfl, rfl, rfl, rfl⟩
theorem h_subsets : Has T 24 Bsubsets 1 5 true := ⟨d__law_subsets, rfl, rfl, rfl, rfl, rfl⟩
theorem h_inside : Has T 25 Binside 2 3 true := ⟨d__law_inside, rfl, rfl, rfl, rfl, rfl⟩
theorem h_table : Has T 26 (Btable 25 27) 2 9 true := ⟨d__law_table, rfl, rfl, rfl, rfl, rfl⟩
theorem h_node : Has T 27 (Bnode 27) 3 6 true := ⟨d__law_node, rfl, rfl, rfl, rfl, rfl⟩
theorem h_family : Has T 28 (Bfamily 21 22) 3 7 true := ⟨d__law_family, rfl, rfl, rfl, rfl, rfl⟩
theorem h_holds : Has T 29 (Bholds 25) 2 3 true := ⟨d__law_holds, rfl, rfl, rfl, rfl, rfl⟩
theorem h_gcd : Has T 30 Bgcd 2 4 true := ⟨d__law_gcd, rfl, rfl, rfl, rfl, rfl⟩
theorem h_fraction : Has T 31 (Bfraction 23 30) 3 3 true := ⟨d__law_fraction, rfl, rfl, rfl, rfl, rfl⟩
theorem h_cases : Has T 32 (Bcases 24 25 29) 4 8 true := ⟨d__law_cases, rfl, rfl, rfl, rfl, rfl⟩
theorem h_chances : Has T 33 (Bchances 20 21 22) 3 7 true := ⟨d__law_chances, rfl, rfl, rfl, rfl, rfl⟩
theorem h_law : Has T 34 b_law 1 7 true := ⟨d_law, rfl, rfl, rfl, rfl, rfl⟩
theorem cases_sum {rows : List (List Nat)} {cs need : List Nat} {m : Nat} {want : Bool} (hl : cs.length = m) : casesW rows cs want need = sumW cs m fun s => (holdsB rows s == want) && insideB need s := by
  unfold casesW sumW caseW
  rw [hl]
def Lfin : CB := (.cons (.ife (.not (.tru (.call 31 (.cons (.idx (.var 4) (.var 6)) (.cons (.call 32 (.cons (.var 2) (.cons (.var 3) (.cons (.cst (.bl false)) (.cons (.tup (.cons (.var 6) .nil)) .nil))))) (.cons (.var 5) .nil)))))) (.cons (.ret (.cst (.bl false))) .nil) .nil) .nil)
theorem law_true : ∀ ns : List Int, ns.length ≤ 63 → ∃ h, call T 60 34 [.scr ns] [] = some (.bl true, h) := by
  intro ns _
  obtain ⟨c, ec⟩ := cell_ok h_cell ns 0
  have ec : call T 59 20 [.scr ns, .int 0] [] = some (.int c, []) := ec 58 []
  have c0 := Int.emod_nonneg c (show (5 : Int) ≠ 0 by decide)
  have c1 := Int.emod_lt_of_pos c (show (0 : Int) < 5 by decide)
  obtain ⟨m, hm, em⟩ : ∃ m : Nat, m ≤ 5 ∧ (1 : Int) + c % 5 = (m : Int) := ⟨(1 + c % 5).toNat, by omega, by omega⟩
  obtain ⟨rows, hr, hrl, ef⟩ := family_ok (n := 56) (h := []) h_family h_draws h_cell h_take ns 1 m (by omega)
  have ef : call T 59 28 [.scr ns, .int 1, .int (m : Int)] [] = some (.lst (rows.map dS), []) := ef
  have hr1 : ∀ r ∈ rows, r.length ≤ 1000 := fun r q => by
    have := (hr r q).length_le
    rw [List.length_range] at this
    omega
  obtain ⟨cs, hcl, hcs, eh⟩ := chances_ok (n := 56) (h := []) h_chances h_draws h_cell h_take ns 3 m (by omega)
  have eh : call T 59 33 [.scr ns, .int 3, .int (m : Int)] [] = some (dS cs, []) := eh
  have et := table_ok (n := 52) (h := []) h_table h_inside h_node (rows := rows) (m := m) hm hr1 (by omega)
  have nl := nodeP_len m (truths rows m (2 ^ m)) 0 []
  have h32 : 2 ^ m ≤ 2 ^ 5 := Nat.pow_le_pow_right (by decide) hm
  have W0 : Wf m ([] : List Nd) := ⟨fun j p w i e => by simp at e⟩
  obtain ⟨w1, _, w3, _⟩ := nodeP_wf (m := m) m (truths rows m (2 ^ m)) 0 [] (by omega) W0
  have tsem : ∀ s, s ∈ subsF (List.range m) → sem (nodeP m (truths rows m (2 ^ m)) 0 []).2 (inB s) (nodeP m (truths rows m (2 ^ m)) 0 []).1 = holdsB rows s := fun s hs => table_sem_s hs
  generalize nodeP m (truths rows m (2 ^ m)) 0 [] = r at et w1 w3 nl tsem
  have et : call T 59 26 [.lst (rows.map dS), .int (m : Int)] [] = some (dC r.2 r.1, []) := et
  have ew : casesW rows cs false [] = sumW cs m fun s => !sem r.2 (inB s) r.1 := by
    rw [cases_sum hcl]
    refine sumW_congr fun s hs => ?_
    rw [tsem s hs]
    show ((holdsB rows s == false) && true) = _
    rw [Bool.and_true, beq_false]
  have ep : ∀ p, casesW rows cs false [p] = sumW cs m fun s => (!sem r.2 (inB s) r.1) && decide (p ∈ s) := fun p => by
    rw [cases_sum hcl]
    refine sumW_congr fun s hs => ?_
    rw [tsem s hs]
    show ((holdsB rows s == false) && (decide (p ∈ s) && true)) = _
    rw [Bool.and_true, beq_false]
  obtain ⟨rz, rp⟩ := right_ok (T := T) (n := 47) (h := []) h_store h_right h_negation h_both h_variable rfl h_chance h_lowest h_plus h_times h_over hm hcl hcs w1 w3 (by simp only [List.length_nil] at nl; omega)
  have eW : call T 59 32 [.lst (rows.map dS), dS cs, .bl false, .tup []] [] = some (dN (casesW rows cs false []), []) := cases_okW (n := 56) h_cases h_subsets h_inside h_holds (want := false) (need := []) hcs (by omega) hr1 (by omega) (by decide)
  rw [← ew] at rz rp
  have p5 : ((0 : Int) < 5) = True := eq_true (by decide)
  have q1 : exS (cn T 59) (.set 1 (.bin .Add (.cst (.int 1)) (.bin .Mod (.blt .int (.cons (.call 20 (.cons (.var 0) (.cons (.cst (.int 0)) .nil))) .nil)) (.cst (.int 5))))) [some (.scr ns), none, none, none, none, none, none] [] = some (.nx, [some (.scr ns), some (dN m), none, none, none, none, none], []) := by simp only [exS, ev, evA, evO, evT, evC, evI_seq, evF_disp, evF_lst, evF_slk, evF_cat, cn_cf, startD, bltD, lenD, Cr.intD, tupleD, sumD, anyD, allD, absD, minD, maxD, gcdD, binD, cmpD, truD, idxD, isiD, mthD, isN, List.map_cons, List.map_nil, List.length_cons, List.length_nil, Option.bind_some, Option.map_some, List.set_cons_zero, List.set_cons_succ, List.getElem?_cons_zero, List.getElem?_cons_succ, List.replicate, List.cons_append, List.nil_append, List.append_nil, Nat.zero_add, Nat.add_one_sub_one, Nat.sub_self, putT, putS, if_true, and_self, sz0, sz1, sz2, sz3, sz5, sz6, wipeD, Nat.reduceAdd, Nat.reduceSub, ec, p5, em, dN]
  have q2 : exS (cn T 59) (.set 2 (.call 28 (.cons (.var 0) (.cons (.cst (.int 1)) (.cons (.var 1) .nil))))) [some (.scr ns), some (dN m), none, none, none, none, none] [] = some (.nx, [some (.scr ns), some (dN m), some (.lst (rows.map dS)), none, none, none, none], []) := exS_set ((ev_call (ds := [.scr ns, .int 1, dN m]) (h1 := []) rfl).trans ef)
  have q3 : exS (cn T 59) (.set 3 (.call 33 (.cons (.var 0) (.cons (.cst (.int 3)) (.cons (.var 1) .nil))))) [some (.scr ns), some (dN m), some (.lst (rows.map dS)), none, none, none, none] [] = some (.nx, [some (.scr ns), some (dN m), some (.lst (rows.map dS)), some (dS cs), none, none, none], []) := exS_set ((ev_call (ds := [.scr ns, .int 3, dN m]) (h1 := []) rfl).trans eh)
  have q4 : ∀ d, call T 59 19 [dC r.2 r.1, dS cs] [] = some (d, []) → exS (cn T 59) (.set 4 (.call 19 (.cons (.call 26 (.cons (.var 2) (.cons (.var 1) .nil))) (.cons (.var 3) .nil)))) [some (.scr ns), some (dN m), some (.lst (rows.map dS)), some (dS cs), none, none, none] [] = some (.nx, [some (.scr ns), some (dN m), some (.lst (rows.map dS)), some (dS cs), some d, none, none], []) := fun d e =>
    exS_set ((ev_call (evA_cons ((ev_call (ds := [.lst (rows.map dS), dN m]) (h1 := []) rfl).trans et) (evA_one (d := dS cs) (h1 := []) rfl))).trans e)
  have q5 : ∀ d, exS (cn T 59) (.set 5 (.call 32 (.cons (.var 2) (.cons (.var 3) (.cons (.cst (.bl false)) (.cons (.tup .nil) .nil)))))) [some (.scr ns), some (dN m), some (.lst (rows.map dS)), some (dS cs), some d, none, none] [] = some (.nx, [some (.scr ns), some (dN m), some (.lst (rows.map dS)), some (dS cs), some d, some (dN (casesW rows cs false [])), none], []) := fun d =>
    exS_set ((ev_call (evA_cons (d := .lst (rows.map dS)) (h1 := []) rfl (evA_cons (d := dS cs) (h1 := []) rfl (evA_cons (d := .bl false) (h1 := []) rfl (evA_one (d := .tup []) (h1 := []) (ev_tup rfl (by decide))))))).trans eW)
  have q6 : ∀ d, evT (cn T 59) (.cmp .Eq (.var 5) (.cst (.int 0))) [some (.scr ns), some (dN m), some (.lst (rows.map dS)), some (dS cs), some d, some (dN (casesW rows cs false [])), none] [] = some (decide (casesW rows cs false [] = 0), []) := fun d => by
    simp only [exS, ev, evA, evO, evT, evC, evI_seq, evF_disp, evF_lst, evF_slk, evF_cat, cn_cf, startD, bltD, lenD, Cr.intD, tupleD, sumD, anyD, allD, absD, minD, maxD, gcdD, binD, cmpD, truD, idxD, isiD, mthD, isN, List.map_cons, List.map_nil, List.length_cons, List.length_nil, Option.bind_some, Option.map_some, List.set_cons_zero, List.set_cons_succ, List.getElem?_cons_zero, List.getElem?_cons_succ, List.replicate, List.cons_append, List.nil_append, List.append_nil, Nat.zero_add, Nat.add_one_sub_one, Nat.sub_self, putT, putS, if_true, and_self, sz0, sz1, sz2, sz3, sz5, sz6, wipeD, Nat.reduceAdd, Nat.reduceSub, dN, eqD_int, nat_eq0]
  rcases Nat.eq_zero_or_pos (casesW rows cs false []) with hz | hpos
  · have er := rz hz
    have q6 := q6 .non
    rw [decide_eq_true hz] at q6
    refine ⟨[], h_law.rt (n := 59) rfl ⟨[some (.scr ns), some (dN m), some (.lst (rows.map dS)), some (dS cs), some .non, some (dN (casesW rows cs false [])), none], ?_⟩ (leave_same rfl)⟩
    exact exB_step q1 (exB_step q2 (exB_step q3 (exB_step (q4 _ er) (exB_step (q5 _) (exB_rt ((exS_ifT q6).trans rfl))))))
  · obtain ⟨vs, hvl, er, hv⟩ := rp hpos
    have q6 := q6 (.tup (vs.map dP))
    rw [decide_eq_false (Nat.ne_of_gt hpos)] at q6
    have q7 : evT (cn T 59) (.or (.not (.tru (.isi (.var 4) .tuple))) (.cmp .NotEq (.blt .len (.cons (.var 4) .nil)) (.var 1))) [some (.scr ns), some (dN m), some (.lst (rows.map dS)), some (dS cs), some (.tup (vs.map dP)), some (dN (casesW rows cs false [])), none] [] = some (false, []) := by
      have : eqD [] (.int (((vs.map dP).length : Nat) : Int)) (dN m) = some true := by
        rw [List.length_map, hvl]
        simp only [dN, eqD_int, nat_beq, decide_true]
      simp only [exS, ev, evA, evO, evT, evC, evI_seq, evF_disp, evF_lst, evF_slk, evF_cat, cn_cf, startD, bltD, lenD, Cr.intD, tupleD, sumD, anyD, allD, absD, minD, maxD, gcdD, binD, cmpD, truD, idxD, isiD, mthD, isN, List.map_cons, List.map_nil, List.length_cons, List.length_nil, Option.bind_some, Option.map_some, List.set_cons_zero, List.set_cons_succ, List.getElem?_cons_zero, List.getElem?_cons_succ, List.replicate, List.cons_append, List.nil_append, List.append_nil, Nat.zero_add, Nat.add_one_sub_one, Nat.sub_self, putT, putS, if_true, and_self, sz0, sz1, sz2, sz3, sz5, sz6, wipeD, Nat.reduceAdd, Nat.reduceSub, seqOf, this, Bool.not_true]
    obtain ⟨se', h', e1, x6, e2, e3⟩ := forD_run (st := fun _ => True) (tg := .nm 6) (b := exB (cn T 59) Lfin) (xs := (List.range m).map fun (k : Nat) => D.int (0 + (k : Int)))
      (fun i se h' => ∃ x6 : Option D, se = [some (.scr ns), some (dN m), some (.lst (rows.map dS)), some (dS cs), some (.tup (vs.map dP)), some (dN (casesW rows cs false [])), x6] ∧ h' = [])
      (se := [some (.scr ns), some (dN m), some (.lst (rows.map dS)), some (dS cs), some (.tup (vs.map dP)), some (dN (casesW rows cs false [])), none]) (h := []) ⟨none, rfl, rfl⟩ (fun _ _ _ _ => trivial) (by
        rintro i x se h' ex ⟨x6, rfl, e⟩
        subst e
        obtain ⟨him, rfl⟩ := rng_get ex
        obtain ⟨v, ev1⟩ : ∃ v, vs[i]? = some v := ⟨_, List.getElem?_eq_getElem (by omega)⟩
        obtain ⟨g1, b1, f1, f2⟩ := hv i v ev1
        rw [← ep i] at f1
        have h9 : casesW rows cs false [] < 2 ^ 64 := by
          have h7 : casesW rows cs false [] ≤ 1000 ^ m := by rw [ew]; exact sumW_le hcs
          have h8 : 1000 ^ m ≤ 1000 ^ 5 := Nat.pow_le_pow_right (by decide) hm
          have h9 : (1000 : Nat) ^ 5 < 2 ^ 64 := by decide +kernel
          omega
        have k1 : call T 59 32 [.lst (rows.map dS), dS cs, .bl false, .tup [dN i]] [] = some (dN (casesW rows cs false [i]), []) := cases_okW (n := 56) h_cases h_subsets h_inside h_holds (want := false) (need := [i]) hcs (by omega) hr1 (by omega) (by show 1 ≤ 1000; decide)
        have k2 : call T 59 31 [dP v, dN (casesW rows cs false [i]), dN (casesW rows cs false [])] [] = some (.bl true, []) := fraction_ok (n := 57) h_fraction h_number h_gcd f2 b1 g1 f1 h9
        have k3 : ev (cn T 59) (.idx (.var 4) (.var 6)) [some (.scr ns), some (dN m), some (.lst (rows.map dS)), some (dS cs), some (.tup (vs.map dP)), some (dN (casesW rows cs false [])), some (dN i)] [] = some (dP v, []) := ev_idx rfl rfl (atN (map_get ev1))
        refine ⟨_, [some (.scr ns), some (dN m), some (.lst (rows.map dS)), some (dS cs), some (.tup (vs.map dP)), some (dN (casesW rows cs false [])), some (dN i)], [], rfl, ?_, some (dN i), rfl, rfl⟩
        refine exB_step ((exS_ifF (h1 := []) ?_).trans exB_nil) exB_nil
        have k4 : ev (cn T 59) (.call 31 (.cons (.idx (.var 4) (.var 6)) (.cons (.call 32 (.cons (.var 2) (.cons (.var 3) (.cons (.cst (.bl false)) (.cons (.tup (.cons (.var 6) .nil)) .nil))))) (.cons (.var 5) .nil)))) [some (.scr ns), some (dN m), some (.lst (rows.map dS)), some (dS cs), some (.tup (vs.map dP)), some (dN (casesW rows cs false [])), some (dN i)] [] = some (.bl true, []) :=
          (ev_call (evA_cons k3 (evA_cons ((ev_call (evA_cons (d := .lst (rows.map dS)) (h1 := []) rfl (evA_cons (d := dS cs) (h1 := []) rfl (evA_cons (d := .bl false) (h1 := []) rfl (evA_one (d := .tup [dN i]) (h1 := []) (ev_tup (evA_one rfl) (by show 1 ≤ sizeLine; decide))))))).trans k1) (evA_one (d := dN (casesW rows cs false [])) (h1 := []) rfl)))).trans k2
        show evT (cn T 59) _ [some (.scr ns), some (dN m), some (.lst (rows.map dS)), some (dS cs), some (.tup (vs.map dP)), some (dN (casesW rows cs false [])), some (dN i)] [] = _
        simp only [evT, k4, Option.bind_some, Option.map_some, truD, Bool.not_true])
    subst e2 e3
    refine ⟨[], h_law.rt (n := 59) (h' := []) (v := .bl true) rfl ⟨[some (.scr ns), some (dN m), some (.lst (rows.map dS)), some (dS cs), some (.tup (vs.map dP)), some (dN (casesW rows cs false [])), x6], ?_⟩ (leave_same rfl)⟩
    refine exB_step q1 (exB_step q2 (exB_step q3 (exB_step (q4 _ er) (exB_step (q5 _) (exB_step ((exS_ifF q6).trans exB_nil) (exB_step ((exS_ifF q7).trans exB_nil) (exB_step ((exS_for (evI_rngN (m := m) (h1 := []) (by omega) rfl)).trans e1) (exB_rt rfl))))))))
end K64
namespace K64
open PySem PySem.Spec PyProof.Rows L2 Cr
set_option maxHeartbeats 0 in
theorem all_mk {l : PySem.W.OpenLaw} {w : World} {K : PySem.W.Frag} {h : Heap} {mg : Str → Option Value} {fa : Addr} (X : K.In h) (G : h.Ns mainGlobals mg) (hfa : mg "law" = some (.ref fa))
    {oc0 : Value} {od0 an0 : Option Addr} {sl0 : Array (Option Value)} {kV0 dc0 pm0 cd0 ct0 : Value} {f0 : Addr}
    (l0 : K.lookup f0 = some ⟨oc0, od0, .func (PySem.W.fnOf "__init__" "Store.__init__" (defArgs (inClass (top 3) 0)) (defBody (inClass (top 3) 0)) (defScope (inClass (top 3) 0)) .none kV0 dc0 pm0 an0 cd0 ct0), sl0⟩) (c0 : PySem.W.codeIn K cd0 "Store.__init__" = true) (k0 : PySem.W.keepIn K (.ref f0) = true)
    {oc1 : Value} {od1 an1 : Option Addr} {sl1 : Array (Option Value)} {kV1 dc1 pm1 cd1 ct1 : Value} {f1 : Addr}
    (l1 : K.lookup f1 = some ⟨oc1, od1, .func (PySem.W.fnOf "make" "Store.make" (defArgs (inClass (top 3) 1)) (defBody (inClass (top 3) 1)) (defScope (inClass (top 3) 1)) .none kV1 dc1 pm1 an1 cd1 ct1), sl1⟩) (c1 : PySem.W.codeIn K cd1 "Store.make" = true) (k1 : PySem.W.keepIn K (.ref f1) = true)
    {oc2 : Value} {od2 an2 : Option Addr} {sl2 : Array (Option Value)} {kV2 dc2 pm2 cd2 ct2 : Value} {f2 : Addr}
    (l2 : K.lookup f2 = some ⟨oc2, od2, .func (PySem.W.fnOf "top" "Store.top" (defArgs (inClass (top 3) 3)) (defBody (inClass (top 3) 3)) (defScope (inClass (top 3) 3)) .none kV2 dc2 pm2 an2 cd2 ct2), sl2⟩) (c2 : PySem.W.codeIn K cd2 "Store.top" = true) (k2 : PySem.W.keepIn K (.ref f2) = true)
    {oc3 : Value} {od3 an3 : Option Addr} {sl3 : Array (Option Value)} {kV3 dc3 pm3 cd3 ct3 : Value} {f3 : Addr}
    (l3 : K.lookup f3 = some ⟨oc3, od3, .func (PySem.W.fnOf "side" "Store.side" (defArgs (inClass (top 3) 4)) (defBody (inClass (top 3) 4)) (defScope (inClass (top 3) 4)) .none kV3 dc3 pm3 an3 cd3 ct3), sl3⟩) (c3 : PySem.W.codeIn K cd3 "Store.side" = true) (k3 : PySem.W.keepIn K (.ref f3) = true)
    {oc4 : Value} {od4 an4 : Option Addr} {sl4 : Array (Option Value)} {kV4 dc4 pm4 cd4 ct4 : Value} {f4 : Addr}
    (l4 : K.lookup f4 = some ⟨oc4, od4, .func (PySem.W.fnOf "negated" "Store.negated" (defArgs (inClass (top 3) 5)) (defBody (inClass (top 3) 5)) (defScope (inClass (top 3) 5)) .none kV4 dc4 pm4 an4 cd4 ct4), sl4⟩) (c4 : PySem.W.codeIn K cd4 "Store.negated" = true) (k4 : PySem.W.keepIn K (.ref f4) = true)
    {oc5 : Value} {od5 an5 : Option Addr} {sl5 : Array (Option Value)} {kV5 dc5 pm5 cd5 ct5 : Value} {f5 : Addr}
    (l5 : K.lookup f5 = some ⟨oc5, od5, .func (PySem.W.fnOf "joined" "Store.joined" (defArgs (inClass (top 3) 6)) (defBody (inClass (top 3) 6)) (defScope (inClass (top 3) 6)) .none kV5 dc5 pm5 an5 cd5 ct5), sl5⟩) (c5 : PySem.W.codeIn K cd5 "Store.joined" = true) (k5 : PySem.W.keepIn K (.ref f5) = true)
    {oc6 : Value} {od6 an6 : Option Addr} {sl6 : Array (Option Value)} {kV6 dc6 pm6 cd6 ct6 : Value} {f6 : Addr}
    (l6 : K.lookup f6 = some ⟨oc6, od6, .func (PySem.W.fnOf "no" "Store.no" (defArgs (inClass (top 3) 7)) (defBody (inClass (top 3) 7)) (defScope (inClass (top 3) 7)) .none kV6 dc6 pm6 an6 cd6 ct6), sl6⟩) (c6 : PySem.W.codeIn K cd6 "Store.no" = true) (k6 : PySem.W.keepIn K (.ref f6) = true)
    {oc7 : Value} {od7 an7 : Option Addr} {sl7 : Array (Option Value)} {kV7 dc7 pm7 cd7 ct7 : Value} {f7 : Addr}
    (l7 : K.lookup f7 = some ⟨oc7, od7, .func (PySem.W.fnOf "and_also" "Store.and_also" (defArgs (inClass (top 3) 8)) (defBody (inClass (top 3) 8)) (defScope (inClass (top 3) 8)) .none kV7 dc7 pm7 an7 cd7 ct7), sl7⟩) (c7 : PySem.W.codeIn K cd7 "Store.and_also" = true) (k7 : PySem.W.keepIn K (.ref f7) = true)
    {oc8 : Value} {od8 an8 : Option Addr} {sl8 : Array (Option Value)} {kV8 dc8 pm8 cd8 ct8 : Value} {f8 : Addr}
    (l8 : K.lookup f8 = some ⟨oc8, od8, .func (PySem.W.fnOf "taken_in" "Store.taken_in" (defArgs (inClass (top 3) 15)) (defBody (inClass (top 3) 15)) (defScope (inClass (top 3) 15)) .none kV8 dc8 pm8 an8 cd8 ct8), sl8⟩) (c8 : PySem.W.codeIn K cd8 "Store.taken_in" = true) (k8 : PySem.W.keepIn K (.ref f8) = true)
    {oc9 : Value} {od9 an9 : Option Addr} {sl9 : Array (Option Value)} {kV9 dc9 pm9 cd9 ct9 : Value} {f9 : Addr}
    (l9 : K.lookup f9 = some ⟨oc9, od9, .func (PySem.W.fnOf "told" "Store.told" (defArgs (inClass (top 3) 16)) (defBody (inClass (top 3) 16)) (defScope (inClass (top 3) 16)) .none kV9 dc9 pm9 an9 cd9 ct9), sl9⟩) (c9 : PySem.W.codeIn K cd9 "Store.told" = true) (k9 : PySem.W.keepIn K (.ref f9) = true)
    {oc10 : Value} {od10 an10 : Option Addr} {sl10 : Array (Option Value)} {kV10 dc10 pm10 cd10 ct10 : Value} {f10 : Addr}
    (l10 : K.lookup f10 = some ⟨oc10, od10, .func (PySem.W.fnOf "written" "Store.written" (defArgs (inClass (top 3) 17)) (defBody (inClass (top 3) 17)) (defScope (inClass (top 3) 17)) .none kV10 dc10 pm10 an10 cd10 ct10), sl10⟩) (c10 : PySem.W.codeIn K cd10 "Store.written" = true) (k10 : PySem.W.keepIn K (.ref f10) = true)
    {oc11 : Value} {od11 an11 : Option Addr} {sl11 : Array (Option Value)} {kV11 dc11 pm11 cd11 ct11 : Value} {f11 : Addr}
    (a11 : PySem.W.nsIn K mainGlobals "variable" = some (some (.ref f11)))
    (l11 : K.lookup f11 = some ⟨oc11, od11, .func (PySem.W.fnOf "variable" "variable" (defArgs (top 4)) (defBody (top 4)) (defScope (top 4)) .none kV11 dc11 pm11 an11 cd11 ct11), sl11⟩) (c11 : PySem.W.codeIn K cd11 "variable" = true) (k11 : PySem.W.keepIn K (.ref f11) = true)
    {oc12 : Value} {od12 an12 : Option Addr} {sl12 : Array (Option Value)} {kV12 dc12 pm12 cd12 ct12 : Value} {f12 : Addr}
    (a12 : PySem.W.nsIn K mainGlobals "negation" = some (some (.ref f12)))
    (l12 : K.lookup f12 = some ⟨oc12, od12, .func (PySem.W.fnOf "negation" "negation" (defArgs (top 5)) (defBody (top 5)) (defScope (top 5)) .none kV12 dc12 pm12 an12 cd12 ct12), sl12⟩) (c12 : PySem.W.codeIn K cd12 "negation" = true) (k12 : PySem.W.keepIn K (.ref f12) = true)
    {oc13 : Value} {od13 an13 : Option Addr} {sl13 : Array (Option Value)} {kV13 dc13 pm13 cd13 ct13 : Value} {f13 : Addr}
    (a13 : PySem.W.nsIn K mainGlobals "both" = some (some (.ref f13)))
    (l13 : K.lookup f13 = some ⟨oc13, od13, .func (PySem.W.fnOf "both" "both" (defArgs (top 6)) (defBody (top 6)) (defScope (top 6)) .none kV13 dc13 pm13 an13 cd13 ct13), sl13⟩) (c13 : PySem.W.codeIn K cd13 "both" = true) (k13 : PySem.W.keepIn K (.ref f13) = true)
    {oc14 : Value} {od14 an14 : Option Addr} {sl14 : Array (Option Value)} {kV14 dc14 pm14 cd14 ct14 : Value} {f14 : Addr}
    (a14 : PySem.W.nsIn K mainGlobals "lowest" = some (some (.ref f14)))
    (l14 : K.lookup f14 = some ⟨oc14, od14, .func (PySem.W.fnOf "lowest" "lowest" (defArgs (top 8)) (defBody (top 8)) (defScope (top 8)) .none kV14 dc14 pm14 an14 cd14 ct14), sl14⟩) (c14 : PySem.W.codeIn K cd14 "lowest" = true) (k14 : PySem.W.keepIn K (.ref f14) = true)
    {oc15 : Value} {od15 an15 : Option Addr} {sl15 : Array (Option Value)} {kV15 dc15 pm15 cd15 ct15 : Value} {f15 : Addr}
    (a15 : PySem.W.nsIn K mainGlobals "plus" = some (some (.ref f15)))
    (l15 : K.lookup f15 = some ⟨oc15, od15, .func (PySem.W.fnOf "plus" "plus" (defArgs (top 9)) (defBody (top 9)) (defScope (top 9)) .none kV15 dc15 pm15 an15 cd15 ct15), sl15⟩) (c15 : PySem.W.codeIn K cd15 "plus" = true) (k15 : PySem.W.keepIn K (.ref f15) = true)
    {oc16 : Value} {od16 an16 : Option Addr} {sl16 : Array (Option Value)} {kV16 dc16 pm16 cd16 ct16 : Value} {f16 : Addr}
    (a16 : PySem.W.nsIn K mainGlobals "times" = some (some (.ref f16)))
    (l16 : K.lookup f16 = some ⟨oc16, od16, .func (PySem.W.fnOf "times" "times" (defArgs (top 10)) (defBody (top 10)) (defScope (top 10)) .none kV16 dc16 pm16 an16 cd16 ct16), sl16⟩) (c16 : PySem.W.codeIn K cd16 "times" = true) (k16 : PySem.W.keepIn K (.ref f16) = true)
    {oc17 : Value} {od17 an17 : Option Addr} {sl17 : Array (Option Value)} {kV17 dc17 pm17 cd17 ct17 : Value} {f17 : Addr}
    (a17 : PySem.W.nsIn K mainGlobals "over" = some (some (.ref f17)))
    (l17 : K.lookup f17 = some ⟨oc17, od17, .func (PySem.W.fnOf "over" "over" (defArgs (top 11)) (defBody (top 11)) (defScope (top 11)) .none kV17 dc17 pm17 an17 cd17 ct17), sl17⟩) (c17 : PySem.W.codeIn K cd17 "over" = true) (k17 : PySem.W.keepIn K (.ref f17) = true)
    {oc18 : Value} {od18 an18 : Option Addr} {sl18 : Array (Option Value)} {kV18 dc18 pm18 cd18 ct18 : Value} {f18 : Addr}
    (a18 : PySem.W.nsIn K mainGlobals "chance" = some (some (.ref f18)))
    (l18 : K.lookup f18 = some ⟨oc18, od18, .func (PySem.W.fnOf "chance" "chance" (defArgs (top 14)) (defBody (top 14)) (defScope (top 14)) .none kV18 dc18 pm18 an18 cd18 ct18), sl18⟩) (c18 : PySem.W.codeIn K cd18 "chance" = true) (k18 : PySem.W.keepIn K (.ref f18) = true)
    {oc19 : Value} {od19 an19 : Option Addr} {sl19 : Array (Option Value)} {kV19 dc19 pm19 cd19 ct19 : Value} {f19 : Addr}
    (a19 : PySem.W.nsIn K mainGlobals "right" = some (some (.ref f19)))
    (l19 : K.lookup f19 = some ⟨oc19, od19, .func (PySem.W.fnOf "right" "right" (defArgs (top 15)) (defBody (top 15)) (defScope (top 15)) .none kV19 dc19 pm19 an19 cd19 ct19), sl19⟩) (c19 : PySem.W.codeIn K cd19 "right" = true) (k19 : PySem.W.keepIn K (.ref f19) = true)
    {oc20 : Value} {od20 an20 : Option Addr} {sl20 : Array (Option Value)} {kV20 dc20 pm20 cd20 ct20 : Value} {f20 : Addr}
    (a20 : PySem.W.nsIn K mainGlobals "_law_cell" = some (some (.ref f20)))
    (l20 : K.lookup f20 = some ⟨oc20, od20, .func (PySem.W.fnOf "_law_cell" "_law_cell" (defArgs (top 17)) (defBody (top 17)) (defScope (top 17)) .none kV20 dc20 pm20 an20 cd20 ct20), sl20⟩) (c20 : PySem.W.codeIn K cd20 "_law_cell" = true) (k20 : PySem.W.keepIn K (.ref f20) = true)
    {oc21 : Value} {od21 an21 : Option Addr} {sl21 : Array (Option Value)} {kV21 dc21 pm21 cd21 ct21 : Value} {f21 : Addr}
    (a21 : PySem.W.nsIn K mainGlobals "_law_draws" = some (some (.ref f21)))
    (l21 : K.lookup f21 = some ⟨oc21, od21, .func (PySem.W.fnOf "_law_draws" "_law_draws" (defArgs (top 18)) (defBody (top 18)) (defScope (top 18)) .none kV21 dc21 pm21 an21 cd21 ct21), sl21⟩) (c21 : PySem.W.codeIn K cd21 "_law_draws" = true) (k21 : PySem.W.keepIn K (.ref f21) = true)
    {oc22 : Value} {od22 an22 : Option Addr} {sl22 : Array (Option Value)} {kV22 dc22 pm22 cd22 ct22 : Value} {f22 : Addr}
    (a22 : PySem.W.nsIn K mainGlobals "_law_take" = some (some (.ref f22)))
    (l22 : K.lookup f22 = some ⟨oc22, od22, .func (PySem.W.fnOf "_law_take" "_law_take" (defArgs (top 19)) (defBody (top 19)) (defScope (top 19)) .none kV22 dc22 pm22 an22 cd22 ct22), sl22⟩) (c22 : PySem.W.codeIn K cd22 "_law_take" = true) (k22 : PySem.W.keepIn K (.ref f22) = true)
    {oc23 : Value} {od23 an23 : Option Addr} {sl23 : Array (Option Value)} {kV23 dc23 pm23 cd23 ct23 : Value} {f23 : Addr}
    (a23 : PySem.W.nsIn K mainGlobals "_law_number" = some (some (.ref f23)))
    (l23 : K.lookup f23 = some ⟨oc23, od23, .func (PySem.W.fnOf "_law_number" "_law_number" (defArgs (top 20)) (defBody (top 20)) (defScope (top 20)) .none kV23 dc23 pm23 an23 cd23 ct23), sl23⟩) (c23 : PySem.W.codeIn K cd23 "_law_number" = true) (k23 : PySem.W.keepIn K (.ref f23) = true)
    {oc24 : Value} {od24 an24 : Option Addr} {sl24 : Array (Option Value)} {kV24 dc24 pm24 cd24 ct24 : Value} {f24 : Addr}
    (a24 : PySem.W.nsIn K mainGlobals "_law_subsets" = some (some (.ref f24)))
    (l24 : K.lookup f24 = some ⟨oc24, od24, .func (PySem.W.fnOf "_law_subsets" "_law_subsets" (defArgs (top 21)) (defBody (top 21)) (defScope (top 21)) .none kV24 dc24 pm24 an24 cd24 ct24), sl24⟩) (c24 : PySem.W.codeIn K cd24 "_law_subsets" = true) (k24 : PySem.W.keepIn K (.ref f24) = true)
    {oc25 : Value} {od25 an25 : Option Addr} {sl25 : Array (Option Value)} {kV25 dc25 pm25 cd25 ct25 : Value} {f25 : Addr}
    (a25 : PySem.W.nsIn K mainGlobals "_law_inside" = some (some (.ref f25)))
    (l25 : K.lookup f25 = some ⟨oc25, od25, .func (PySem.W.fnOf "_law_inside" "_law_inside" (defArgs (top 22)) (defBody (top 22)) (defScope (top 22)) .none kV25 dc25 pm25 an25 cd25 ct25), sl25⟩) (c25 : PySem.W.codeIn K cd25 "_law_inside" = true) (k25 : PySem.W.keepIn K (.ref f25) = true)
    {oc26 : Value} {od26 an26 : Option Addr} {sl26 : Array (Option Value)} {kV26 dc26 pm26 cd26 ct26 : Value} {f26 : Addr}
    (a26 : PySem.W.nsIn K mainGlobals "_law_table" = some (some (.ref f26)))
    (l26 : K.lookup f26 = some ⟨oc26, od26, .func (PySem.W.fnOf "_law_table" "_law_table" (defArgs (top 23)) (defBody (top 23)) (defScope (top 23)) .none kV26 dc26 pm26 an26 cd26 ct26), sl26⟩) (c26 : PySem.W.codeIn K cd26 "_law_table" = true) (k26 : PySem.W.keepIn K (.ref f26) = true)
    {oc27 : Value} {od27 an27 : Option Addr} {sl27 : Array (Option Value)} {kV27 dc27 pm27 cd27 ct27 : Value} {f27 : Addr}
    (a27 : PySem.W.nsIn K mainGlobals "_law_node" = some (some (.ref f27)))
    (l27 : K.lookup f27 = some ⟨oc27, od27, .func (PySem.W.fnOf "_law_node" "_law_node" (defArgs (top 24)) (defBody (top 24)) (defScope (top 24)) .none kV27 dc27 pm27 an27 cd27 ct27), sl27⟩) (c27 : PySem.W.codeIn K cd27 "_law_node" = true) (k27 : PySem.W.keepIn K (.ref f27) = true)
    {oc28 : Value} {od28 an28 : Option Addr} {sl28 : Array (Option Value)} {kV28 dc28 pm28 cd28 ct28 : Value} {f28 : Addr}
    (a28 : PySem.W.nsIn K mainGlobals "_law_family" = some (some (.ref f28)))
    (l28 : K.lookup f28 = some ⟨oc28, od28, .func (PySem.W.fnOf "_law_family" "_law_family" (defArgs (top 25)) (defBody (top 25)) (defScope (top 25)) .none kV28 dc28 pm28 an28 cd28 ct28), sl28⟩) (c28 : PySem.W.codeIn K cd28 "_law_family" = true) (k28 : PySem.W.keepIn K (.ref f28) = true)
    {oc29 : Value} {od29 an29 : Option Addr} {sl29 : Array (Option Value)} {kV29 dc29 pm29 cd29 ct29 : Value} {f29 : Addr}
    (a29 : PySem.W.nsIn K mainGlobals "_law_holds" = some (some (.ref f29)))
    (l29 : K.lookup f29 = some ⟨oc29, od29, .func (PySem.W.fnOf "_law_holds" "_law_holds" (defArgs (top 26)) (defBody (top 26)) (defScope (top 26)) .none kV29 dc29 pm29 an29 cd29 ct29), sl29⟩) (c29 : PySem.W.codeIn K cd29 "_law_holds" = true) (k29 : PySem.W.keepIn K (.ref f29) = true)
    {oc30 : Value} {od30 an30 : Option Addr} {sl30 : Array (Option Value)} {kV30 dc30 pm30 cd30 ct30 : Value} {f30 : Addr}
    (a30 : PySem.W.nsIn K mainGlobals "_law_gcd" = some (some (.ref f30)))
    (l30 : K.lookup f30 = some ⟨oc30, od30, .func (PySem.W.fnOf "_law_gcd" "_law_gcd" (defArgs (top 27)) (defBody (top 27)) (defScope (top 27)) .none kV30 dc30 pm30 an30 cd30 ct30), sl30⟩) (c30 : PySem.W.codeIn K cd30 "_law_gcd" = true) (k30 : PySem.W.keepIn K (.ref f30) = true)
    {oc31 : Value} {od31 an31 : Option Addr} {sl31 : Array (Option Value)} {kV31 dc31 pm31 cd31 ct31 : Value} {f31 : Addr}
    (a31 : PySem.W.nsIn K mainGlobals "_law_fraction" = some (some (.ref f31)))
    (l31 : K.lookup f31 = some ⟨oc31, od31, .func (PySem.W.fnOf "_law_fraction" "_law_fraction" (defArgs (top 28)) (defBody (top 28)) (defScope (top 28)) .none kV31 dc31 pm31 an31 cd31 ct31), sl31⟩) (c31 : PySem.W.codeIn K cd31 "_law_fraction" = true) (k31 : PySem.W.keepIn K (.ref f31) = true)
    {oc32 : Value} {od32 an32 : Option Addr} {sl32 : Array (Option Value)} {kV32 dc32 pm32 cd32 ct32 : Value} {f32 : Addr}
    (a32 : PySem.W.nsIn K mainGlobals "_law_cases" = some (some (.ref f32)))
    (l32 : K.lookup f32 = some ⟨oc32, od32, .func (PySem.W.fnOf "_law_cases" "_law_cases" (defArgs (top 29)) (defBody (top 29)) (defScope (top 29)) .none kV32 dc32 pm32 an32 cd32 ct32), sl32⟩) (c32 : PySem.W.codeIn K cd32 "_law_cases" = true) (k32 : PySem.W.keepIn K (.ref f32) = true)
    {oc33 : Value} {od33 an33 : Option Addr} {sl33 : Array (Option Value)} {kV33 dc33 pm33 cd33 ct33 : Value} {f33 : Addr}
    (a33 : PySem.W.nsIn K mainGlobals "_law_chances" = some (some (.ref f33)))
    (l33 : K.lookup f33 = some ⟨oc33, od33, .func (PySem.W.fnOf "_law_chances" "_law_chances" (defArgs (top 30)) (defBody (top 30)) (defScope (top 30)) .none kV33 dc33 pm33 an33 cd33 ct33), sl33⟩) (c33 : PySem.W.codeIn K cd33 "_law_chances" = true) (k33 : PySem.W.keepIn K (.ref f33) = true)
    {oc34 : Value} {od34 an34 : Option Addr} {sl34 : Array (Option Value)} {kV34 dc34 pm34 cd34 ct34 : Value} {f34 : Addr}
    (a34 : PySem.W.nsIn K mainGlobals "law" = some (some (.ref f34)))
    (l34 : K.lookup f34 = some ⟨oc34, od34, .func (PySem.W.fnOf "law" "law" (defArgs (top 31)) (defBody (top 31)) (defScope (top 31)) .none kV34 dc34 pm34 an34 cd34 ct34), sl34⟩) (c34 : PySem.W.codeIn K cd34 "law" = true) (k34 : PySem.W.keepIn K (.ref f34) = true)
    {g0 : Value} (w0 : PySem.W.nsIn K mainGlobals "WHOLE" = some (some g0)) (v0 : RelV (V.int 1000) g0)
    (z0 : PySem.W.nsIn K mainGlobals "abs" = some none)
    (z1 : PySem.W.nsIn K mainGlobals "all" = some none)
    (z2 : PySem.W.nsIn K mainGlobals "any" = some none)
    (z3 : PySem.W.nsIn K mainGlobals "bool" = some none)
    (z4 : PySem.W.nsIn K mainGlobals "int" = some none)
    (z5 : PySem.W.nsIn K mainGlobals "isinstance" = some none)
    (z6 : PySem.W.nsIn K mainGlobals "len" = some none)
    (z7 : PySem.W.nsIn K mainGlobals "list" = some none)
    (z8 : PySem.W.nsIn K mainGlobals "max" = some none)
    (z9 : PySem.W.nsIn K mainGlobals "min" = some none)
    (z10 : PySem.W.nsIn K mainGlobals "range" = some none)
    (z11 : PySem.W.nsIn K mainGlobals "tuple" = some none)
    (gg : PySem.W.nsIn K mainGlobals "gcd" = some (some (.builtin "math.gcd")))
    {C0 : Addr} (ca0 : PySem.W.nsIn K mainGlobals "Store" = some (some (.ref C0)))
    (cb0 : PySem.W.plainGet K C0 Str.empty = true) (cc0 : PySem.W.hasDictIn K C0 = true) (cd_0 : PySem.W.plainOver K C0 = true) (ce0 : PySem.W.findIn K (.ref C0) "__setattr__" = some (some (.builtin "object.__setattr__")))
    (cf0 : PySem.W.makesIn K C0 = true) (cg0 : PySem.W.keepIn K (.ref C0) = true)
    (na0_0 : PySem.W.findIn K (.ref C0) "nodes" = some none)
    (na0_1 : PySem.W.findIn K (.ref C0) "places" = some none)
    (ma0 : PySem.W.findIn K (.ref C0) "__init__" = some (some (.ref f0))) (mb0 : PySem.W.isFn K (.ref f0) = true)
    (ma1 : PySem.W.findIn K (.ref C0) "make" = some (some (.ref f1))) (mb1 : PySem.W.isFn K (.ref f1) = true)
    (ma2 : PySem.W.findIn K (.ref C0) "top" = some (some (.ref f2))) (mb2 : PySem.W.isFn K (.ref f2) = true)
    (ma3 : PySem.W.findIn K (.ref C0) "side" = some (some (.ref f3))) (mb3 : PySem.W.isFn K (.ref f3) = true)
    (ma4 : PySem.W.findIn K (.ref C0) "negated" = some (some (.ref f4))) (mb4 : PySem.W.isFn K (.ref f4) = true)
    (ma5 : PySem.W.findIn K (.ref C0) "joined" = some (some (.ref f5))) (mb5 : PySem.W.isFn K (.ref f5) = true)
    (ma6 : PySem.W.findIn K (.ref C0) "no" = some (some (.ref f6))) (mb6 : PySem.W.isFn K (.ref f6) = true)
    (ma7 : PySem.W.findIn K (.ref C0) "and_also" = some (some (.ref f7))) (mb7 : PySem.W.isFn K (.ref f7) = true)
    (ma8 : PySem.W.findIn K (.ref C0) "taken_in" = some (some (.ref f8))) (mb8 : PySem.W.isFn K (.ref f8) = true)
    (ma9 : PySem.W.findIn K (.ref C0) "told" = some (some (.ref f9))) (mb9 : PySem.W.isFn K (.ref f9) = true)
    (ma10 : PySem.W.findIn K (.ref C0) "written" = some (some (.ref f10))) (mb10 : PySem.W.isFn K (.ref f10) = true)
    : ∃ fd : FuncData, (∀ (s : Shared) (v : Value), BindsTo s fd ⟨[v], []⟩ [("_law_script", v)]) ∧ ∀ base : Heap, K.In base → base.Ns mainGlobals mg → FnOk l.prog w K mg base CX0 60 fa fd ["_law_script"] (spAll K 1 (call T 60 34)) := by
  have e := hfa.symm.trans (PySem.W.mg_of X G a34)
  cases e
  have t : TabIn T K mg (clOf C0) := by
    refine ⟨fun d hd hm => ?_, fun p hp => ?_, fun x hx => ?_, ?_, fun C c hc => ?_⟩
    · simp only [T, List.mem_cons, List.not_mem_nil, or_false] at hd
      rcases hd with rfl | rfl | rfl | rfl | rfl | rfl | rfl | rfl | rfl | rfl | rfl | rfl | rfl | rfl | rfl | rfl | rfl | rfl | rfl | rfl | rfl | rfl | rfl | rfl | rfl | rfl | rfl | rfl | rfl | rfl | rfl | rfl | rfl | rfl | rfl
      · cases hm
      · cases hm
      · cases hm
      · cases hm
      · cases hm
      · cases hm
      · cases hm
      · cases hm
      · cases hm
      · cases hm
      · cases hm
      · exact ⟨(top 4), _, _, _, _, fun _ => PySem.W.mg_of X G a11, (fun_mk (st := (top 4)) l11 c11 k11), ((fun_mk (st := (top 4)) l11 c11 k11).binds (ps := d_variable.ps) (fun _ _ _ _ _ _ us hl => match us, hl with | [_], _ => rfl)), c_variable⟩
      · exact ⟨(top 5), _, _, _, _, fun _ => PySem.W.mg_of X G a12, (fun_mk (st := (top 5)) l12 c12 k12), ((fun_mk (st := (top 5)) l12 c12 k12).binds (ps := d_negation.ps) (fun _ _ _ _ _ _ us hl => match us, hl with | [_], _ => rfl)), c_negation⟩
      · exact ⟨(top 6), _, _, _, _, fun _ => PySem.W.mg_of X G a13, (fun_mk (st := (top 6)) l13 c13 k13), ((fun_mk (st := (top 6)) l13 c13 k13).binds (ps := d_both.ps) (fun _ _ _ _ _ _ us hl => match us, hl with | [_, _], _ => rfl)), c_both⟩
      · exact ⟨(top 8), _, _, _, _, fun _ => PySem.W.mg_of X G a14, (fun_mk (st := (top 8)) l14 c14 k14), ((fun_mk (st := (top 8)) l14 c14 k14).binds (ps := d_lowest.ps) (fun _ _ _ _ _ _ us hl => match us, hl with | [_, _], _ => rfl)), c_lowest⟩
      · exact ⟨(top 9), _, _, _, _, fun _ => PySem.W.mg_of X G a15, (fun_mk (st := (top 9)) l15 c15 k15), ((fun_mk (st := (top 9)) l15 c15 k15).binds (ps := d_plus.ps) (fun _ _ _ _ _ _ us hl => match us, hl with | [_, _], _ => rfl)), c_plus⟩
      · exact ⟨(top 10), _, _, _, _, fun _ => PySem.W.mg_of X G a16, (fun_mk (st := (top 10)) l16 c16 k16), ((fun_mk (st := (top 10)) l16 c16 k16).binds (ps := d_times.ps) (fun _ _ _ _ _ _ us hl => match us, hl with | [_, _], _ => rfl)), c_times⟩
      · exact ⟨(top 11), _, _, _, _, fun _ => PySem.W.mg_of X G a17, (fun_mk (st := (top 11)) l17 c17 k17), ((fun_mk (st := (top 11)) l17 c17 k17).binds (ps := d_over.ps) (fun _ _ _ _ _ _ us hl => match us, hl with | [_, _], _ => rfl)), c_over⟩
      · exact ⟨(top 14), _, _, _, _, fun _ => PySem.W.mg_of X G a18, (fun_mk (st := (top 14)) l18 c18 k18), ((fun_mk (st := (top 14)) l18 c18 k18).binds (ps := d_chance.ps) (fun _ _ _ _ _ _ us hl => match us, hl with | [_, _], _ => rfl)), c_chance⟩
      · exact ⟨(top 15), _, _, _, _, fun _ => PySem.W.mg_of X G a19, (fun_mk (st := (top 15)) l19 c19 k19), ((fun_mk (st := (top 15)) l19 c19 k19).binds (ps := d_right.ps) (fun _ _ _ _ _ _ us hl => match us, hl with | [_, _], _ => rfl)), c_right⟩
      · exact ⟨(top 17), _, _, _, _, fun _ => PySem.W.mg_of X G a20, (fun_mk (st := (top 17)) l20 c20 k20), ((fun_mk (st := (top 17)) l20 c20 k20).binds (ps := d__law_cell.ps) (fun _ _ _ _ _ _ us hl => match us, hl with | [_, _], _ => rfl)), c__law_cell⟩
      · exact ⟨(top 18), _, _, _, _, fun _ => PySem.W.mg_of X G a21, (fun_mk (st := (top 18)) l21 c21 k21), ((fun_mk (st := (top 18)) l21 c21 k21).binds (ps := d__law_draws.ps) (fun _ _ _ _ _ _ us hl => match us, hl with | [_, _, _], _ => rfl)), c__law_draws⟩
      · exact ⟨(top 19), _, _, _, _, fun _ => PySem.W.mg_of X G a22, (fun_mk (st := (top 19)) l22 c22 k22), ((fun_mk (st := (top 19)) l22 c22 k22).binds (ps := d__law_take.ps) (fun _ _ _ _ _ _ us hl => match us, hl with | [_, _], _ => rfl)), c__law_take⟩
      · exact ⟨(top 20), _, _, _, _, fun _ => PySem.W.mg_of X G a23, (fun_mk (st := (top 20)) l23 c23 k23), ((fun_mk (st := (top 20)) l23 c23 k23).binds (ps := d__law_number.ps) (fun _ _ _ _ _ _ us hl => match us, hl with | [_], _ => rfl)), c__law_number⟩
      · exact ⟨(top 21), _, _, _, _, fun _ => PySem.W.mg_of X G a24, (fun_mk (st := (top 21)) l24 c24 k24), ((fun_mk (st := (top 21)) l24 c24 k24).binds (ps := d__law_subsets.ps) (fun _ _ _ _ _ _ us hl => match us, hl with | [_], _ => rfl)), c__law_subsets⟩
      · exact ⟨(top 22), _, _, _, _, fun _ => PySem.W.mg_of X G a25, (fun_mk (st := (top 22)) l25 c25 k25), ((fun_mk (st := (top 22)) l25 c25 k25).binds (ps := d__law_inside.ps) (fun _ _ _ _ _ _ us hl => match us, hl with | [_, _], _ => rfl)), c__law_inside⟩
      · exact ⟨(top 23), _, _, _, _, fun _ => PySem.W.mg_of X G a26, (fun_mk (st := (top 23)) l26 c26 k26), ((fun_mk (st := (top 23)) l26 c26 k26).binds (ps := d__law_table.ps) (fun _ _ _ _ _ _ us hl => match us, hl with | [_, _], _ => rfl)), c__law_table⟩
      · exact ⟨(top 24), _, _, _, _, fun _ => PySem.W.mg_of X G a27, (fun_mk (st := (top 24)) l27 c27 k27), ((fun_mk (st := (top 24)) l27 c27 k27).binds (ps := d__law_node.ps) (fun _ _ _ _ _ _ us hl => match us, hl with | [_, _, _], _ => rfl)), c__law_node⟩
      · exact ⟨(top 25), _, _, _, _, fun _ => PySem.W.mg_of X G a28, (fun_mk (st := (top 25)) l28 c28 k28), ((fun_mk (st := (top 25)) l28 c28 k28).binds (ps := d__law_family.ps) (fun _ _ _ _ _ _ us hl => match us, hl with | [_, _, _], _ => rfl)), c__law_family⟩
      · exact ⟨(top 26), _, _, _, _, fun _ => PySem.W.mg_of X G a29, (fun_mk (st := (top 26)) l29 c29 k29), ((fun_mk (st := (top 26)) l29 c29 k29).binds (ps := d__law_holds.ps) (fun _ _ _ _ _ _ us hl => match us, hl with | [_, _], _ => rfl)), c__law_holds⟩
      · exact ⟨(top 27), _, _, _, _, fun _ => PySem.W.mg_of X G a30, (fun_mk (st := (top 27)) l30 c30 k30), ((fun_mk (st := (top 27)) l30 c30 k30).binds (ps := d__law_gcd.ps) (fun _ _ _ _ _ _ us hl => match us, hl with | [_, _], _ => rfl)), c__law_gcd⟩
      · exact ⟨(top 28), _, _, _, _, fun _ => PySem.W.mg_of X G a31, (fun_mk (st := (top 28)) l31 c31 k31), ((fun_mk (st := (top 28)) l31 c31 k31).binds (ps := d__law_fraction.ps) (fun _ _ _ _ _ _ us hl => match us, hl with | [_, _, _], _ => rfl)), c__law_fraction⟩
      · exact ⟨(top 29), _, _, _, _, fun _ => PySem.W.mg_of X G a32, (fun_mk (st := (top 29)) l32 c32 k32), ((fun_mk (st := (top 29)) l32 c32 k32).binds (ps := d__law_cases.ps) (fun _ _ _ _ _ _ us hl => match us, hl with | [_, _, _, _], _ => rfl)), c__law_cases⟩
      · exact ⟨(top 30), _, _, _, _, fun _ => PySem.W.mg_of X G a33, (fun_mk (st := (top 30)) l33 c33 k33), ((fun_mk (st := (top 30)) l33 c33 k33).binds (ps := d__law_chances.ps) (fun _ _ _ _ _ _ us hl => match us, hl with | [_, _, _], _ => rfl)), c__law_chances⟩
      · exact ⟨(top 31), _, _, _, _, fun _ => PySem.W.mg_of X G a34, (fun_mk (st := (top 31)) l34 c34 k34), ((fun_mk (st := (top 31)) l34 c34 k34).binds (ps := d_law.ps) (fun _ _ _ _ _ _ us hl => match us, hl with | [_], _ => rfl)), c_law⟩
    · simp only [T, List.mem_cons, List.not_mem_nil, or_false] at hp
      rcases hp with rfl
      · exact ⟨_, _, PySem.W.mg_of X G w0, v0, fun _ _ => .int _⟩
    · simp only [T, List.mem_cons, List.not_mem_nil, or_false] at hx
      rcases hx with rfl | rfl | rfl | rfl | rfl | rfl | rfl | rfl | rfl | rfl | rfl | rfl
      · exact PySem.W.mg_none_of X G z0
      · exact PySem.W.mg_none_of X G z1
      · exact PySem.W.mg_none_of X G z2
      · exact PySem.W.mg_none_of X G z3
      · exact PySem.W.mg_none_of X G z4
      · exact PySem.W.mg_none_of X G z5
      · exact PySem.W.mg_none_of X G z6
      · exact PySem.W.mg_none_of X G z7
      · exact PySem.W.mg_none_of X G z8
      · exact PySem.W.mg_none_of X G z9
      · exact PySem.W.mg_none_of X G z10
      · exact PySem.W.mg_none_of X G z11
    · exact fun _ => PySem.W.mg_of X G gg
    · match C, hc with
      | 0, hc =>
        cases hc
        refine ⟨C0, rfl, ⟨cb0, cc0, cd_0, ce0⟩, fun f hf => ?_, fun p hp => ?_, ?_⟩
        · simp only [List.mem_cons, List.not_mem_nil, or_false] at hf
          rcases hf with rfl | rfl
          · exact na0_0
          · exact na0_1
        · simp only [List.mem_cons, List.not_mem_nil, or_false] at hp
          rcases hp with rfl | rfl | rfl | rfl | rfl | rfl | rfl | rfl | rfl | rfl
          · exact ⟨d_Store_make, (inClass (top 3) 1), _, _, _, _, rfl, ⟨ma1, mb1, k1⟩, (fun_mk (st := (inClass (top 3) 1)) l1 c1 k1), ((fun_mk (st := (inClass (top 3) 1)) l1 c1 k1).binds (ps := d_Store_make.ps) (fun _ _ _ _ _ _ us hl => match us, hl with | [_, _, _, _], _ => rfl)), c_Store_make⟩
          · exact ⟨d_Store_top, (inClass (top 3) 3), _, _, _, _, rfl, ⟨ma2, mb2, k2⟩, (fun_mk (st := (inClass (top 3) 3)) l2 c2 k2), ((fun_mk (st := (inClass (top 3) 3)) l2 c2 k2).binds (ps := d_Store_top.ps) (fun _ _ _ _ _ _ us hl => match us, hl with | [_, _, _], _ => rfl)), c_Store_top⟩
          · exact ⟨d_Store_side, (inClass (top 3) 4), _, _, _, _, rfl, ⟨ma3, mb3, k3⟩, (fun_mk (st := (inClass (top 3) 4)) l3 c3 k3), ((fun_mk (st := (inClass (top 3) 4)) l3 c3 k3).binds (ps := d_Store_side.ps) (fun _ _ _ _ _ _ us hl => match us, hl with | [_, _, _, _], _ => rfl)), c_Store_side⟩
          · exact ⟨d_Store_negated, (inClass (top 3) 5), _, _, _, _, rfl, ⟨ma4, mb4, k4⟩, (fun_mk (st := (inClass (top 3) 5)) l4 c4 k4), ((fun_mk (st := (inClass (top 3) 5)) l4 c4 k4).binds (ps := d_Store_negated.ps) (fun _ _ _ _ _ _ us hl => match us, hl with | [_, _, _], _ => rfl)), c_Store_negated⟩
          · exact ⟨d_Store_joined, (inClass (top 3) 6), _, _, _, _, rfl, ⟨ma5, mb5, k5⟩, (fun_mk (st := (inClass (top 3) 6)) l5 c5 k5), ((fun_mk (st := (inClass (top 3) 6)) l5 c5 k5).binds (ps := d_Store_joined.ps) (fun _ _ _ _ _ _ us hl => match us, hl with | [_, _, _, _], _ => rfl)), c_Store_joined⟩
          · exact ⟨d_Store_no, (inClass (top 3) 7), _, _, _, _, rfl, ⟨ma6, mb6, k6⟩, (fun_mk (st := (inClass (top 3) 7)) l6 c6 k6), ((fun_mk (st := (inClass (top 3) 7)) l6 c6 k6).binds (ps := d_Store_no.ps) (fun _ _ _ _ _ _ us hl => match us, hl with | [_, _], _ => rfl)), c_Store_no⟩
          · exact ⟨d_Store_and_also, (inClass (top 3) 8), _, _, _, _, rfl, ⟨ma7, mb7, k7⟩, (fun_mk (st := (inClass (top 3) 8)) l7 c7 k7), ((fun_mk (st := (inClass (top 3) 8)) l7 c7 k7).binds (ps := d_Store_and_also.ps) (fun _ _ _ _ _ _ us hl => match us, hl with | [_, _, _], _ => rfl)), c_Store_and_also⟩
          · exact ⟨d_Store_taken_in, (inClass (top 3) 15), _, _, _, _, rfl, ⟨ma8, mb8, k8⟩, (fun_mk (st := (inClass (top 3) 15)) l8 c8 k8), ((fun_mk (st := (inClass (top 3) 15)) l8 c8 k8).binds (ps := d_Store_taken_in.ps) (fun _ _ _ _ _ _ us hl => match us, hl with | [_, _], _ => rfl)), c_Store_taken_in⟩
          · exact ⟨d_Store_told, (inClass (top 3) 16), _, _, _, _, rfl, ⟨ma9, mb9, k9⟩, (fun_mk (st := (inClass (top 3) 16)) l9 c9 k9), ((fun_mk (st := (inClass (top 3) 16)) l9 c9 k9).binds (ps := d_Store_told.ps) (fun _ _ _ _ _ _ us hl => match us, hl with | [_, _], _ => rfl)), c_Store_told⟩
          · exact ⟨d_Store_written, (inClass (top 3) 17), _, _, _, _, rfl, ⟨ma10, mb10, k10⟩, (fun_mk (st := (inClass (top 3) 17)) l10 c10 k10), ((fun_mk (st := (inClass (top 3) 17)) l10 c10 k10).binds (ps := d_Store_written.ps) (fun _ _ _ _ _ _ us hl => match us, hl with | [_, _, _, _], _ => rfl)), c_Store_written⟩
        · exact ⟨d_Store___init__, (inClass (top 3) 0), _, _, _, _, rfl, PySem.W.mg_of X G ca0, ⟨cf0, ma0, mb0, cg0⟩, (fun_mk (st := (inClass (top 3) 0)) l0 c0 k0), ((fun_mk (st := (inClass (top 3) 0)) l0 c0 k0).binds (ps := d_Store___init__.ps) (fun _ _ _ _ _ _ us hl => match us, hl with | [_], _ => rfl)), c_Store___init__⟩
      | C + 1, hc => simp [T] at hc
  exact ⟨_, fun s v => .of_eq rfl, fun base _ _ => all_ok (fn_all t 60 34 d_law rfl (top 31) _ _ fa _ (fun_mk (st := (top 31)) l34 c34 k34) ((fun_mk (st := (top 31)) l34 c34 k34).binds (ps := d_law.ps) (fun _ _ _ _ _ _ us hl => match us, hl with | [_], _ => rfl)) c_law)⟩
end K64
open PySem PySem.W PyProof.Rows
set_option maxHeartbeats 0 in
theorem PySem.Challenge.cw_ontoworks_k64_right_holds : PySem.Challenge.rw_ontoworks_k64_right.Holds := by
  w_on; o_law; k_head; (case hw => w_witness2)
  k_fill
  refine L2.walk_of (l := PySem.Challenge.rw_ontoworks_k64_right) (n := 63) (k := 60) (x := "_law_script") (CX := fun _ => L2.CX0) (sp := fun w => Cr.spAll _ 1 (Cr.call K64.T 60 34)) rfl (by decide) rfl ⟨rfl, by decide, by decide⟩ (fun w h Y => PySem.W.kIn_of Y) ?F (fun w H a ns hl _ hS cl => Cr.law_sp K64.law_true hl hS) (fun _ _ _ _ _ h => h)
  case F =>
    intro w mg fa h KX G hmg
    refine' K64.all_mk KX G hmg ?l0 ?c0 ?k0 ?l1 ?c1 ?k1 ?l2 ?c2 ?k2 ?l3 ?c3 ?k3 ?l4 ?c4 ?k4 ?l5 ?c5 ?k5 ?l6 ?c6 ?k6 ?l7 ?c7 ?k7 ?l8 ?c8 ?k8 ?l9 ?c9 ?k9 ?l10 ?c10 ?k10 ?a11 ?l11 ?c11 ?k11 ?a12 ?l12 ?c12 ?k12 ?a13 ?l13 ?c13 ?k13 ?a14 ?l14 ?c14 ?k14 ?a15 ?l15 ?c15 ?k15 ?a16 ?l16 ?c16 ?k16 ?a17 ?l17 ?c17 ?k17 ?a18 ?l18 ?c18 ?k18 ?a19 ?l19 ?c19 ?k19 ?a20 ?l20 ?c20 ?k20 ?a21 ?l21 ?c21 ?k21 ?a22 ?l22 ?c22 ?k22 ?a23 ?l23 ?c23 ?k23 ?a24 ?l24 ?c24 ?k24 ?a25 ?l25 ?c25 ?k25 ?a26 ?l26 ?c26 ?k26 ?a27 ?l27 ?c27 ?k27 ?a28 ?l28 ?c28 ?k28 ?a29 ?l29 ?c29 ?k29 ?a30 ?l30 ?c30 ?k30 ?a31 ?l31 ?c31 ?k31 ?a32 ?l32 ?c32 ?k32 ?a33 ?l33 ?c33 ?k33 ?a34 ?l34 ?c34 ?k34 ?w0 ?v0 ?z0 ?z1 ?z2 ?z3 ?z4 ?z5 ?z6 ?z7 ?z8 ?z9 ?z10 ?z11 ?gg ?ca0 ?cb0 ?cc0 ?cd_0 ?ce0 ?cf0 ?cg0 ?na0_0 ?na0_1 ?ma0 ?mb0 ?ma1 ?mb1 ?ma2 ?mb2 ?ma3 ?mb3 ?ma4 ?mb4 ?ma5 ?mb5 ?ma6 ?mb6 ?ma7 ?mb7 ?ma8 ?mb8 ?ma9 ?mb9 ?ma10 ?mb10
    (case ca0 => k_is); (case ma0 => k_is); (case ma1 => k_is); (case ma2 => k_is); (case ma3 => k_is); (case ma4 => k_is); (case ma5 => k_is); (case ma6 => k_is); (case ma7 => k_is); (case ma8 => k_is); (case ma9 => k_is); (case ma10 => k_is); (case l0 => k_is); (case c0 => k_is); (case k0 => k_is); (case l1 => k_is); (case c1 => k_is); (case k1 => k_is); (case l2 => k_is); (case c2 => k_is); (case k2 => k_is); (case l3 => k_is); (case c3 => k_is); (case k3 => k_is); (case l4 => k_is); (case c4 => k_is); (case k4 => k_is); (case l5 => k_is); (case c5 => k_is); (case k5 => k_is); (case l6 => k_is); (case c6 => k_is); (case k6 => k_is); (case l7 => k_is); (case c7 => k_is); (case k7 => k_is); (case l8 => k_is); (case c8 => k_is); (case k8 => k_is); (case l9 => k_is); (case c9 => k_is); (case k9 => k_is); (case l10 => k_is); (case c10 => k_is); (case k10 => k_is); (case a11 => k_is); (case l11 => k_is); (case c11 => k_is); (case k11 => k_is); (case a12 => k_is); (case l12 => k_is); (case c12 => k_is); (case k12 => k_is); (case a13 => k_is); (case l13 => k_is); (case c13 => k_is); (case k13 => k_is); (case a14 => k_is); (case l14 => k_is); (case c14 => k_is); (case k14 => k_is); (case a15 => k_is); (case l15 => k_is); (case c15 => k_is); (case k15 => k_is); (case a16 => k_is); (case l16 => k_is); (case c16 => k_is); (case k16 => k_is); (case a17 => k_is); (case l17 => k_is); (case c17 => k_is); (case k17 => k_is); (case a18 => k_is); (case l18 => k_is); (case c18 => k_is); (case k18 => k_is); (case a19 => k_is); (case l19 => k_is); (case c19 => k_is); (case k19 => k_is); (case a20 => k_is); (case l20 => k_is); (case c20 => k_is); (case k20 => k_is); (case a21 => k_is); (case l21 => k_is); (case c21 => k_is); (case k21 => k_is); (case a22 => k_is); (case l22 => k_is); (case c22 => k_is); (case k22 => k_is); (case a23 => k_is); (case l23 => k_is); (case c23 => k_is); (case k23 => k_is); (case a24 => k_is); (case l24 => k_is); (case c24 => k_is); (case k24 => k_is); (case a25 => k_is); (case l25 => k_is); (case c25 => k_is); (case k25 => k_is); (case a26 => k_is); (case l26 => k_is); (case c26 => k_is); (case k26 => k_is); (case a27 => k_is); (case l27 => k_is); (case c27 => k_is); (case k27 => k_is); (case a28 => k_is); (case l28 => k_is); (case c28 => k_is); (case k28 => k_is); (case a29 => k_is); (case l29 => k_is); (case c29 => k_is); (case k29 => k_is); (case a30 => k_is); (case l30 => k_is); (case c30 => k_is); (case k30 => k_is); (case a31 => k_is); (case l31 => k_is); (case c31 => k_is); (case k31 => k_is); (case a32 => k_is); (case l32 => k_is); (case c32 => k_is); (case k32 => k_is); (case a33 => k_is); (case l33 => k_is); (case c33 => k_is); (case k33 => k_is); (case a34 => k_is); (case l34 => k_is); (case c34 => k_is); (case k34 => k_is); (case w0 => k_is); (case v0 => exact ⟨_, rfl⟩); (case z0 => k_is); (case z1 => k_is); (case z2 => k_is); (case z3 => k_is); (case z4 => k_is); (case z5 => k_is); (case z6 => k_is); (case z7 => k_is); (case z8 => k_is); (case z9 => k_is); (case z10 => k_is); (case z11 => k_is); (case gg => k_is); (case cb0 => k_is); (case cc0 => k_is); (case cd_0 => k_is); (case ce0 => k_is); (case cf0 => k_is); (case cg0 => k_is); (case na0_0 => k_is); (case na0_1 => k_is); (case mb0 => k_is); (case mb1 => k_is); (case mb2 => k_is); (case mb3 => k_is); (case mb4 => k_is); (case mb5 => k_is); (case mb6 => k_is); (case mb7 => k_is); (case mb8 => k_is); (case mb9 => k_is); (case mb10 => k_is)
