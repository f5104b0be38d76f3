import PyProof.Rows.All
import Wide.All
import OpenK.AllK
import Wide.FinOn
import HandS.Base
import HandS.Call
import HandS.List
import HandS.Comp
import HandS.Ends
import HandS.Dict
import HandS.Iter
import HandS.Text
import HandS.Words
import HandS.WordsList
import HandS.Exc
import HandS.TryOnly
import HandS.Star
import HandS.IsInst
import HandS.Zip
import HandS.Deep
import HandS.Flow
import HandS.TupAny
import HandS.Style
import HandS.CallSlots
import HandS.WordsExc
import KE.KUnpackStar
import PySem.Challenge.RW_labelroam_k01_names_and_sayings_told
set_option Elab.async false
set_option linter.all false
set_option maxRecDepth 100000
set_option maxHeartbeats 4000000
-- WordsExc
-- CallSlots
/-! # The data layer: what a body does, told over immutable data D and mutable cells M (over the hand layer's readings) -/
namespace L3
open PySem L2

/-! ### 1. Data -/
/-- a value as a whole: data never changes; ptr: a mutable thing, told by the memory M; scr: the script -/
inductive D where
  | non | bl (b : Bool) | int (i : Int) | str (s : Str) | ty (n : String)
  | tup (ds : List D) | lst (ds : List D)
  | dK (kvs : List (Key × D)) | dT (kvs : List (List Key × D))
  | obj (c : Str) (fs : List (Str × D))
  | ptr (a : Addr)
  | scr (ns : List Int)

/-- the address of a class (a def) of the module, by its name -/
def ca (mg : Str → Option Value) (c : Str) : Addr := match mg c with
  | some (.ref a) => a
  | _ => 0

def Ex (H H' : Hp) : Prop := ∀ a o, H a = some o → H' a = some o
theorem Ex.refl (H : Hp) : Ex H H := fun _ _ h => h
theorem Ex.trans {H H1 H2 : Hp} (a : Ex H H1) (b : Ex H1 H2) : Ex H H2 := fun x o h => b x o (a x o h)
theorem Ex.free {H H' : Hp} (e : Ex H H') {p : Addr} (h : H' p = none) : H p = none := by
  cases h1 : H p with
  | none => rfl
  | some o => rw [e p o h1] at h; cases h
theorem Ex.new {H : Hp} {p : Addr} {o : HO} (h : H p = none) : Ex H (upd H p o) := fun a u e => by
  rw [upd_ne (ne_of_none e h)]; exact e
theorem Ex.both {H H' : Hp} (e : Ex H H') (p : Addr) (o : HO) : Ex (upd H p o) (upd H' p o) := fun a u h => by
  by_cases q : a = p
  · subst q; rw [upd_same] at h ⊢; exact h
  · rw [upd_ne q] at h ⊢; exact e a u h
/-- an object that the smaller heap does not know changes -/
theorem Ex.mut {H H' : Hp} {p : Addr} {o : HO} (e : Ex H H') (h : H p = none) : Ex H (upd H' p o) := fun a u ha => by
  rw [upd_ne (ne_of_none ha h)]; exact e a u ha
theorem ex_rd {H H' : Hp} {a : Addr} {u : HO} (e : Ex H H') (h : Rd H a u) : Rd H' a u := by
  rcases h with h | ⟨o, h⟩
  · exact .inl (e a _ h)
  · exact .inr ⟨o, e a _ h⟩
theorem ex_l {K : PySem.W.Frag} {H H' : Hp} {a : Addr} {xs : List V} (e : Ex H H') (h : SqL K H a xs) : SqL K H' a xs := by
  rcases h with h | h
  · exact .inl (ex_rd e h)
  · exact .inr h
theorem ex_t {K : PySem.W.Frag} {H H' : Hp} {a : Addr} {xs : List V} (e : Ex H H') (h : SqT K H a xs) : SqT K H' a xs := by
  rcases h with h | h
  · exact .inl (ex_rd e h)
  · exact .inr h

section
variable (K : PySem.W.Frag) (mg : Str → Option Value)
mutual
/-- v stands for d, over the heap H -/
inductive Rep (H : Hp) : V → D → Prop where
  | non : Rep H .non .non
  | bl {b} : Rep H (.bl b) (.bl b)
  | int {i} : Rep H (.int i) (.int i)
  | str {s} : Rep H (.str s) (.str s)
  | ty {n} : Rep H (.ty n) (.ty n)
  | ptr {a} : Rep H (.ref a) (.ptr a)
  | scr {a ns} : SqL K H a (ns.map V.int) → Rep H (.ref a) (.scr ns)
  | tup {a vs ds} : SqT K H a vs → Reps H vs ds → Rep H (.ref a) (.tup ds)
  | lst {a vs ds} : H a = some (.lst vs) → Reps H vs ds → Rep H (.ref a) (.lst ds)
  | dK {a ws kvs} : H a = some (.dK ws) → RepK H ws kvs → Rep H (.ref a) (.dK kvs)
  | dT {a ws kvs} : H a = some (.dT ws) → RepT H ws kvs → Rep H (.ref a) (.dT kvs)
  | obj {a dx c ws fs} : H a = some (.ins (ca mg c) dx ws) → RepF H ws fs → Rep H (.ref a) (.obj c fs)
inductive Reps (H : Hp) : List V → List D → Prop where
  | nil : Reps H [] []
  | cons {v d vs ds} : Rep H v d → Reps H vs ds → Reps H (v :: vs) (d :: ds)
inductive RepF (H : Hp) : List (Str × V) → List (Str × D) → Prop where
  | nil : RepF H [] []
  | cons {f v d vs ds} : Rep H v d → RepF H vs ds → RepF H ((f, v) :: vs) ((f, d) :: ds)
inductive RepK (H : Hp) : List (Key × V) → List (Key × D) → Prop where
  | nil : RepK H [] []
  | cons {f v d vs ds} : Rep H v d → RepK H vs ds → RepK H ((f, v) :: vs) ((f, d) :: ds)
inductive RepT (H : Hp) : List (List Key × V) → List (List Key × D) → Prop where
  | nil : RepT H [] []
  | cons {f v d vs ds} : Rep H v d → RepT H vs ds → RepT H ((f, v) :: vs) ((f, d) :: ds)
end
end

section
variable {K : PySem.W.Frag} {mg : Str → Option Value} {H H' : Hp}
mutual
theorem Rep.mono (e : Ex H H') : ∀ {v : V} {d : D}, Rep K mg H v d → Rep K mg H' v d
  | _, _, .non => .non
  | _, _, .bl => .bl
  | _, _, .int => .int
  | _, _, .str => .str
  | _, _, .ty => .ty
  | _, _, .ptr => .ptr
  | _, _, .scr h => .scr (ex_l e h)
  | _, _, .tup h r => .tup (ex_t e h) (Reps.mono e r)
  | _, _, .lst h r => .lst (e _ _ h) (Reps.mono e r)
  | _, _, .dK h r => .dK (e _ _ h) (RepK.mono e r)
  | _, _, .dT h r => .dT (e _ _ h) (RepT.mono e r)
  | _, _, .obj h r => .obj (e _ _ h) (RepF.mono e r)
theorem Reps.mono (e : Ex H H') : ∀ {vs : List V} {ds : List D}, Reps K mg H vs ds → Reps K mg H' vs ds
  | _, _, .nil => .nil
  | _, _, .cons r t => .cons (Rep.mono e r) (Reps.mono e t)
theorem RepF.mono (e : Ex H H') : ∀ {vs : List (Str × V)} {ds : List (Str × D)}, RepF K mg H vs ds → RepF K mg H' vs ds
  | _, _, .nil => .nil
  | _, _, .cons r t => .cons (Rep.mono e r) (RepF.mono e t)
theorem RepK.mono (e : Ex H H') : ∀ {vs : List (Key × V)} {ds : List (Key × D)}, RepK K mg H vs ds → RepK K mg H' vs ds
  | _, _, .nil => .nil
  | _, _, .cons r t => .cons (Rep.mono e r) (RepK.mono e t)
theorem RepT.mono (e : Ex H H') : ∀ {vs : List (List Key × V)} {ds : List (List Key × D)}, RepT K mg H vs ds → RepT K mg H' vs ds
  | _, _, .nil => .nil
  | _, _, .cons r t => .cons (Rep.mono e r) (RepT.mono e t)
end
theorem Reps.length : ∀ {vs : List V} {ds : List D}, Reps K mg H vs ds → vs.length = ds.length
  | _, _, .nil => rfl
  | _, _, .cons _ t => congrArg (· + 1) (Reps.length t)
theorem Reps.get : ∀ {vs : List V} {ds : List D} {i : Nat} {d : D}, Reps K mg H vs ds → ds[i]? = some d → ∃ v, vs[i]? = some v ∧ Rep K mg H v d
  | _, _, _, _, .nil, e => by simp at e
  | _, _, 0, _, .cons r _, e => by simp at e; subst e; exact ⟨_, rfl, r⟩
  | _, _, i + 1, d, .cons _ t, e => by
    obtain ⟨v, h1, h2⟩ := Reps.get (i := i) (d := d) t (by simpa using e)
    exact ⟨v, by simpa using h1, h2⟩
theorem Reps.get' : ∀ {vs : List V} {ds : List D} {i : Nat} {v : V}, Reps K mg H vs ds → vs[i]? = some v → ∃ d, ds[i]? = some d ∧ Rep K mg H v d
  | _, _, _, _, .nil, e => by simp at e
  | _, _, 0, _, .cons r _, e => by simp at e; subst e; exact ⟨_, rfl, r⟩
  | _, _, i + 1, d, .cons _ t, e => by
    obtain ⟨v, h1, h2⟩ := Reps.get' (i := i) (v := d) t (by simpa using e)
    exact ⟨v, by simpa using h1, h2⟩
theorem Reps.append : ∀ {vs ws : List V} {ds es : List D}, Reps K mg H vs ds → Reps K mg H ws es → Reps K mg H (vs ++ ws) (ds ++ es)
  | _, _, _, _, .nil, q => q
  | _, _, _, _, .cons r t, q => .cons r (Reps.append t q)
theorem Reps.set {x : V} {d : D} (r : Rep K mg H x d) : ∀ {vs : List V} {ds : List D} (i : Nat), Reps K mg H vs ds → Reps K mg H (vs.set i x) (ds.set i d)
  | _, _, _, .nil => .nil
  | _, _, 0, .cons _ t => .cons r t
  | _, _, i + 1, .cons q t => .cons q (Reps.set r i t)
theorem Reps.take : ∀ {vs : List V} {ds : List D} (n : Nat), Reps K mg H vs ds → Reps K mg H (vs.take n) (ds.take n)
  | _, _, 0, _ => .nil
  | _, _, _ + 1, .nil => .nil
  | _, _, n + 1, .cons r t => .cons r (Reps.take n t)
theorem Reps.drop : ∀ {vs : List V} {ds : List D} (n : Nat), Reps K mg H vs ds → Reps K mg H (vs.drop n) (ds.drop n)
  | _, _, 0, r => r
  | _, _, _ + 1, .nil => .nil
  | _, _, n + 1, .cons _ t => Reps.drop n t
theorem Reps.dropLast {vs : List V} {ds : List D} (r : Reps K mg H vs ds) : Reps K mg H vs.dropLast ds.dropLast := by
  rw [List.dropLast_eq_take, List.dropLast_eq_take, r.length]; exact r.take _
theorem RepF.lookup : ∀ {vs : List (Str × V)} {ds : List (Str × D)} {f : Str} {d : D}, RepF K mg H vs ds → ds.lookup f = some d → ∃ v, vs.lookup f = some v ∧ Rep K mg H v d
  | _, _, _, _, .nil, e => by simp at e
  | (g, v) :: vs, (_, d) :: ds, f, d', .cons r t, e => by
    rw [List.lookup_cons] at e ⊢
    cases q : f == g with
    | true => rw [q] at e; simp only at e; cases e; exact ⟨v, rfl, r⟩
    | false => rw [q] at e; exact RepF.lookup t e
theorem RepF.lookup_none : ∀ {vs : List (Str × V)} {ds : List (Str × D)} {f : Str}, RepF K mg H vs ds → ds.lookup f = none → vs.lookup f = none
  | _, _, _, .nil, e => rfl
  | (g, v) :: vs, (_, d) :: ds, f, .cons r t, e => by
    rw [List.lookup_cons] at e ⊢
    cases q : f == g with
    | true => rw [q] at e; cases e
    | false => rw [q] at e; exact RepF.lookup_none t e
theorem RepF.length : ∀ {vs : List (Str × V)} {ds : List (Str × D)}, RepF K mg H vs ds → vs.length = ds.length
  | _, _, .nil => rfl
  | _, _, .cons _ t => congrArg (· + 1) (RepF.length t)
end

/-! ### 2. Memory: mutable cells -/
inductive Cell where
  | l (ds : List D) | k (kvs : List (Key × D)) | t (kvs : List (List Key × D)) | o (c : Str) (fs : List (Str × D))
abbrev Mm := Addr → Option Cell
def Mm.put (M : Mm) (p : Addr) (c : Cell) : Mm := fun a => if a = p then some c else M a
def Mm.del (M : Mm) (p : Addr) : Mm := fun a => if a = p then none else M a
theorem Mm.put_same {M : Mm} {p : Addr} {c : Cell} : M.put p c p = some c := if_pos rfl
theorem Mm.put_ne {M : Mm} {p q : Addr} {c : Cell} (h : q ≠ p) : M.put p c q = M q := if_neg h
theorem Mm.put_put {M : Mm} {p : Addr} {c c' : Cell} : (M.put p c).put p c' = M.put p c' := by
  funext a; unfold Mm.put; by_cases h : a = p <;> simp [h]

section
variable (K : PySem.W.Frag) (mg : Str → Option Value)
def CellOk (Hb H : Hp) (p : Addr) : Cell → Prop
  | .l ds => ∃ vs, H p = some (.lst vs) ∧ Reps K mg Hb vs ds
  | .k kvs => ∃ ws, H p = some (.dK ws) ∧ RepK K mg Hb ws kvs
  | .t kvs => ∃ ws, H p = some (.dT ws) ∧ RepT K mg Hb ws kvs
  | .o c fs => ∃ dx ws, H p = some (.ins (ca mg c) dx ws) ∧ RepF K mg Hb ws fs
/-- the heap H holds the data of Hb, the cells of M beside, and, untouched, what F says -/
structure Hs (F Hb H : Hp) (M : Mm) : Prop where
  ex : Ex Hb H
  ce : ∀ p c, M p = some c → Hb p = none ∧ CellOk K mg Hb H p c
  fr : ∀ p o, F p = some o → H p = some o ∧ Hb p = none ∧ M p = none
/-- a name of one's own -/
def okN (x : Str) : Bool := !(x == ("__debug__" : Str)) && !(x == ("__classdict__" : Str)) && !(x == ("__name__" : Str))
/-- what is known of the visible names: the name, its slot, its value (none: nothing known) -/
abbrev Ga := List (Str × Nat × Option D)
structure Slots (N : List Str) (sc : Scope) (Hb : Hp) (σ : St) (Γ : Ga) : Prop where
  len : σ.length = N.length
  nd : (Γ.map (·.2.1)).Nodup
  nm : ∀ e ∈ Γ, N[e.2.1]? = some e.1 ∧ Vis sc e.1 ∧ okN e.1 = true
  get : ∀ e ∈ Γ, ∀ d, e.2.2 = some d → ∃ v, σ[e.2.1]? = some (some v) ∧ Rep K mg Hb v d
inductive Has : Ga → Str → Nat → D → Prop where
  | here {Γ : Ga} {x : Str} {i : Nat} {d : D} : Has ((x, i, some d) :: Γ) x i d
  | there {Γ : Ga} {e : Str × Nat × Option D} {x : Str} {i : Nat} {d : D} : Has Γ x i d → Has (e :: Γ) x i d
inductive Put : Ga → Str → D → Ga → Nat → Prop where
  | here {Γ : Ga} {x : Str} {i : Nat} {o : Option D} {d : D} : Put ((x, i, o) :: Γ) x d ((x, i, some d) :: Γ) i
  | there {Γ Γ' : Ga} {e : Str × Nat × Option D} {x : Str} {i : Nat} {d : D} : Put Γ x d Γ' i → Put (e :: Γ) x d (e :: Γ') i
theorem Has.mem {Γ : Ga} {x : Str} {i : Nat} {d : D} : Has Γ x i d → (x, i, some d) ∈ Γ
  | .here => List.mem_cons_self
  | .there h => List.mem_cons_of_mem _ h.mem
/-- an entry behind a Put: the new one, or an old one at another slot -/
theorem Put.mem {Γ Γ' : Ga} {x : Str} {i : Nat} {d : D} : Put Γ x d Γ' i → (Γ'.map (fun e => (e.1, e.2.1)) = Γ.map (fun e => (e.1, e.2.1))) ∧ (∃ o, (x, i, o) ∈ Γ) ∧ ((Γ.map (·.2.1)).Nodup → ∀ e ∈ Γ', e = (x, i, some d) ∨ (e ∈ Γ ∧ e.2.1 ≠ i))
  | .here => ⟨rfl, ⟨_, List.mem_cons_self⟩, fun nd e he => by
    rcases List.mem_cons.mp he with q | q
    · exact .inl q
    · refine .inr ⟨List.mem_cons_of_mem _ q, fun z => ?_⟩
      rw [List.map_cons, List.nodup_cons] at nd
      exact nd.1 (List.mem_map.mpr ⟨e, q, z⟩)⟩
  | .there (e := e0) h => by
    obtain ⟨h1, ⟨o, h2⟩, h3⟩ := h.mem
    refine ⟨by simp only [List.map_cons, h1], ⟨o, List.mem_cons_of_mem _ h2⟩, fun nd e he => ?_⟩
    rw [List.map_cons, List.nodup_cons] at nd
    rcases List.mem_cons.mp he with q | q
    · subst q
      exact .inr ⟨List.mem_cons_self, fun z => nd.1 (List.mem_map.mpr ⟨_, h2, z.symm⟩)⟩
    · rcases h3 nd.2 e q with z | z
      · exact .inl z
      · exact .inr ⟨List.mem_cons_of_mem _ z.1, z.2⟩
end
section
variable {K : PySem.W.Frag} {mg : Str → Option Value} {F F' Hb Hb' H H' : Hp} {M : Mm} {p : Addr} {c : Cell} {σ : St} {Γ : Ga}
theorem CellOk.there (x : CellOk K mg Hb H p c) : ∃ o, H p = some o := by
  cases c with
  | l ds => obtain ⟨_, h, _⟩ := x; exact ⟨_, h⟩
  | k ds => obtain ⟨_, h, _⟩ := x; exact ⟨_, h⟩
  | t ds => obtain ⟨_, h, _⟩ := x; exact ⟨_, h⟩
  | o c fs => obtain ⟨_, _, h, _⟩ := x; exact ⟨_, h⟩
theorem CellOk.mono (x : CellOk K mg Hb H p c) (e : Ex Hb Hb') (h : H' p = H p) : CellOk K mg Hb' H' p c := by
  cases c with
  | l ds => obtain ⟨vs, q, r⟩ := x; exact ⟨vs, h.trans q, r.mono e⟩
  | k ds => obtain ⟨vs, q, r⟩ := x; exact ⟨vs, h.trans q, r.mono e⟩
  | t ds => obtain ⟨vs, q, r⟩ := x; exact ⟨vs, h.trans q, r.mono e⟩
  | o c fs => obtain ⟨dx, vs, q, r⟩ := x; exact ⟨dx, vs, h.trans q, r.mono e⟩
theorem Hs.there (x : Hs K mg F Hb H M) (h : M p = some c) : ∃ o, H p = some o := (x.ce p c h).2.there
theorem Hs.free (x : Hs K mg F Hb H M) (h : H p = none) : M p = none := by
  cases q : M p with
  | none => rfl
  | some c => obtain ⟨o, e⟩ := x.there q; rw [e] at h; cases h
theorem Hs.freeF (x : Hs K mg F Hb H M) (h : H p = none) : F p = none := by
  cases q : F p with
  | none => rfl
  | some o => rw [(x.fr p o q).1] at h; cases h
/-- less of a frame -/
theorem Hs.less (x : Hs K mg F' Hb H M) (e : Ex F F') : Hs K mg F Hb H M := ⟨x.ex, x.ce, fun p o h => x.fr p o (e p o h)⟩
/-- new data -/
theorem Hs.new (x : Hs K mg F Hb H M) (h : H p = none) (o : HO) : Hs K mg F (upd Hb p o) (upd H p o) M where
  ex := x.ex.both p o
  ce := fun q c e => by
    obtain ⟨o', e'⟩ := x.there e
    have n : q ≠ p := ne_of_none e' h
    exact ⟨by rw [upd_ne n]; exact (x.ce q c e).1, (x.ce q c e).2.mono (Ex.new (x.ex.free h)) (upd_ne n)⟩
  fr := fun q u e => by
    obtain ⟨h1, h2, h3⟩ := x.fr q u e
    have n : q ≠ p := ne_of_none h1 h
    exact ⟨by rw [upd_ne n]; exact h1, by rw [upd_ne n]; exact h2, h3⟩
/-- a new thing that is not told -/
theorem Hs.junk (x : Hs K mg F Hb H M) (h : H p = none) (o : HO) : Hs K mg F Hb (upd H p o) M where
  ex := x.ex.trans (Ex.new h)
  ce := fun q c e => by
    obtain ⟨o', e'⟩ := x.there e
    exact ⟨(x.ce q c e).1, (x.ce q c e).2.mono (Ex.refl _) (upd_ne (ne_of_none e' h))⟩
  fr := fun q u e => by
    obtain ⟨h1, h2, h3⟩ := x.fr q u e
    exact ⟨by rw [upd_ne (ne_of_none h1 h)]; exact h1, h2, h3⟩
/-- a new thing of the frame -/
theorem Hs.frame (x : Hs K mg F Hb H M) (h : H p = none) (o : HO) : Hs K mg (upd F p o) Hb (upd H p o) M where
  ex := x.ex.trans (Ex.new h)
  ce := fun q c e => by
    obtain ⟨o', e'⟩ := x.there e
    exact ⟨(x.ce q c e).1, (x.ce q c e).2.mono (Ex.refl _) (upd_ne (ne_of_none e' h))⟩
  fr := fun q u e => by
    by_cases n : q = p
    · subst n; rw [upd_same] at e ⊢; exact ⟨e, x.ex.free h, x.free h⟩
    · rw [upd_ne n] at e ⊢; exact x.fr q u e
/-- a thing of the frame changes -/
theorem Hs.reframe (x : Hs K mg F Hb H M) {o : HO} (h : F p = some o) (o' : HO) : Hs K mg (upd F p o') Hb (upd H p o') M := by
  obtain ⟨h1, h2, h3⟩ := x.fr p o h
  refine ⟨x.ex.mut h2, fun q c e => ?_, fun q u e => ?_⟩
  · have n : q ≠ p := fun z => by subst z; rw [h3] at e; cases e
    exact ⟨(x.ce q c e).1, (x.ce q c e).2.mono (Ex.refl _) (upd_ne n)⟩
  · by_cases n : q = p
    · subst n; rw [upd_same] at e ⊢; exact ⟨e, h2, h3⟩
    · rw [upd_ne n] at e ⊢; exact x.fr q u e
/-- a new cell -/
theorem Hs.cell (x : Hs K mg F Hb H M) (h : H p = none) {o : HO} (hc : CellOk K mg Hb (upd H p o) p c) : Hs K mg F Hb (upd H p o) (M.put p c) where
  ex := x.ex.trans (Ex.new h)
  ce := fun q c' e => by
    by_cases n : q = p
    · subst n; rw [Mm.put_same] at e; cases e; exact ⟨x.ex.free h, hc⟩
    · rw [Mm.put_ne n] at e
      exact ⟨(x.ce q c' e).1, (x.ce q c' e).2.mono (Ex.refl _) (upd_ne n)⟩
  fr := fun q u e => by
    obtain ⟨h1, h2, h3⟩ := x.fr q u e
    have n : q ≠ p := ne_of_none h1 h
    exact ⟨by rw [upd_ne n]; exact h1, h2, by rw [Mm.put_ne n]; exact h3⟩
/-- a cell changes -/
theorem Hs.write (x : Hs K mg F Hb H M) {c0 : Cell} (h : M p = some c0) {o : HO} (hc : CellOk K mg Hb (upd H p o) p c) : Hs K mg F Hb (upd H p o) (M.put p c) where
  ex := x.ex.mut (x.ce p c0 h).1
  ce := fun q c' e => by
    by_cases n : q = p
    · subst n; rw [Mm.put_same] at e; cases e; exact ⟨(x.ce q c0 h).1, hc⟩
    · rw [Mm.put_ne n] at e
      exact ⟨(x.ce q c' e).1, (x.ce q c' e).2.mono (Ex.refl _) (upd_ne n)⟩
  fr := fun q u e => by
    obtain ⟨h1, h2, h3⟩ := x.fr q u e
    have n : q ≠ p := fun z => by subst z; rw [h] at h3; cases h3
    exact ⟨by rw [upd_ne n]; exact h1, h2, by rw [Mm.put_ne n]; exact h3⟩
/-- a cell becomes data -/
theorem Hs.freeze (x : Hs K mg F Hb H M) (h : M p = some c) {o : HO} (e : H p = some o) : Hs K mg F (upd Hb p o) H (M.del p) ∧ Ex Hb (upd Hb p o) := by
  obtain ⟨n, co⟩ := x.ce p c h
  refine ⟨⟨fun a u q => ?_, fun q c' e' => ?_, fun q u e' => ?_⟩, Ex.new n⟩
  · by_cases z : a = p
    · subst z; rw [upd_same] at q; cases q; exact e
    · rw [upd_ne z] at q; exact x.ex a u q
  · by_cases z : q = p
    · subst z; unfold Mm.del at e'; rw [if_pos rfl] at e'; cases e'
    · unfold Mm.del at e'; rw [if_neg z] at e'
      exact ⟨by rw [upd_ne z]; exact (x.ce q c' e').1, (x.ce q c' e').2.mono (Ex.new n) rfl⟩
  · obtain ⟨h1, h2, h3⟩ := x.fr q u e'
    have z : q ≠ p := fun z => by subst z; rw [h] at h3; cases h3
    refine ⟨h1, by rw [upd_ne z]; exact h2, ?_⟩
    unfold Mm.del; rw [if_neg z]; exact h3
/-- a cell is forgotten -/
theorem Hs.drop (x : Hs K mg F Hb H M) (p : Addr) : Hs K mg F Hb H (M.del p) := by
  refine ⟨x.ex, fun q c' e' => ?_, fun q u e' => ?_⟩
  · by_cases z : q = p
    · subst z; unfold Mm.del at e'; rw [if_pos rfl] at e'; cases e'
    · unfold Mm.del at e'; rw [if_neg z] at e'; exact x.ce q c' e'
  · obtain ⟨h1, h2, h3⟩ := x.fr q u e'
    refine ⟨h1, h2, ?_⟩
    unfold Mm.del; split
    · rfl
    · exact h3
theorem Slots.mono {N : List Str} {sc : Scope} (x : Slots K mg N sc Hb σ Γ) (e : Ex Hb Hb') : Slots K mg N sc Hb' σ Γ := ⟨x.len, x.nd, x.nm, fun a ha d h => by
  obtain ⟨v, h1, h2⟩ := x.get a ha d h
  exact ⟨v, h1, h2.mono e⟩⟩
theorem Slots.put {N : List Str} {sc : Scope} (x : Slots K mg N sc Hb σ Γ) {v : V} {d : D} {y : Str} {Γ' : Ga} {i : Nat} (p : Put Γ y d Γ' i) (r : Rep K mg Hb v d) : Slots K mg N sc Hb (σ.set i (some v)) Γ' := by
  obtain ⟨h1, ⟨o, h2⟩, h3⟩ := p.mem
  have nd : (Γ'.map (·.2.1)) = (Γ.map (·.2.1)) := by
    have := congrArg (List.map Prod.snd) h1
    simpa [List.map_map, Function.comp_def] using this
  have hi : N[i]? = some y := (x.nm _ h2).1
  have il : i < N.length := (List.getElem?_eq_some_iff.mp hi).1
  refine ⟨by rw [List.length_set]; exact x.len, by rw [nd]; exact x.nd, fun e he => ?_, fun e he d' hd => ?_⟩
  · rcases h3 x.nd e he with q | q
    · subst q; exact x.nm (y, i, o) h2
    · exact x.nm _ q.1
  · rcases h3 x.nd e he with q | q
    · subst q
      cases hd
      exact ⟨v, by rw [List.getElem?_set_self (by rw [x.len]; exact il)], r⟩
    · obtain ⟨v', e1, e2⟩ := x.get e q.1 d' hd
      exact ⟨v', by rw [List.getElem?_set_ne (Ne.symm q.2)]; exact e1, e2⟩
/-- less is told of the names -/
theorem Slots.less {N : List Str} {sc : Scope} (x : Slots K mg N sc Hb σ Γ) {Γ' : Ga} (nd : (Γ'.map (·.2.1)).Nodup) (h : ∀ e ∈ Γ', e ∈ Γ ∨ (e.2.2 = none ∧ ∃ o, (e.1, e.2.1, o) ∈ Γ)) : Slots K mg N sc Hb σ Γ' :=
  ⟨x.len, nd, fun e he => by
    rcases h e he with q | ⟨_, o, q⟩
    · exact x.nm e q
    · exact x.nm (e.1, e.2.1, o) q, fun e he d hd => by
    rcases h e he with q | ⟨z, _⟩
    · exact x.get e q d hd
    · rw [z] at hd; cases hd⟩
/-- the names at a def's entry -/
def mkG : Nat → List Str → List D → Ga
  | i, x :: N, d :: ds => (x, i, some d) :: mkG (i + 1) N ds
  | i, x :: N, [] => (x, i, none) :: mkG (i + 1) N []
  | _, [], _ => []
theorem mkG_mem : ∀ {N : List Str} {ds : List D} {i : Nat} {e : Str × Nat × Option D}, e ∈ mkG i N ds → ∃ j, e.2.1 = i + j ∧ N[j]? = some e.1 ∧ e.2.2 = ds[j]?
  | x :: N, d :: ds, i, e, h => by
    rcases List.mem_cons.mp h with q | q
    · subst q; exact ⟨0, rfl, rfl, rfl⟩
    · obtain ⟨j, h1, h2, h3⟩ := mkG_mem q
      exact ⟨j + 1, by omega, by simpa using h2, by simpa using h3⟩
  | x :: N, [], i, e, h => by
    rcases List.mem_cons.mp h with q | q
    · subst q; exact ⟨0, rfl, rfl, rfl⟩
    · obtain ⟨j, h1, h2, h3⟩ := mkG_mem q
      exact ⟨j + 1, by omega, by simpa using h2, by simpa using h3⟩
  | [], _, i, e, h => by simp [mkG] at h
theorem mkG_nd : ∀ {N : List Str} {ds : List D} {i : Nat}, ((mkG i N ds).map (·.2.1)).Nodup
  | x :: N, d :: ds, i => by
    rw [mkG, List.map_cons, List.nodup_cons]
    refine ⟨fun h => ?_, mkG_nd⟩
    obtain ⟨e, h1, h2⟩ := List.mem_map.mp h
    obtain ⟨j, h3, _⟩ := mkG_mem h1
    have h2 : e.2.1 = i := h2
    omega
  | x :: N, [], i => by
    rw [mkG, List.map_cons, List.nodup_cons]
    refine ⟨fun h => ?_, mkG_nd⟩
    obtain ⟨e, h1, h2⟩ := List.mem_map.mp h
    obtain ⟨j, h3, _⟩ := mkG_mem h1
    have h2 : e.2.1 = i := h2
    omega
  | [], _, i => by simp [mkG]
theorem Slots.start {N C : List Str} {sc : Scope} {vs : List V} {ds : List D} (r : Reps K mg Hb vs ds) (hl : ds.length ≤ N.length) (hv : ∀ x ∈ N, Vis sc x ∧ okN x = true) : Slots K mg (N ++ C) sc Hb (L2.start (N ++ C) vs) (mkG 0 N ds) := by
  have el := r.length
  refine ⟨by unfold L2.start; simp [el]; omega, mkG_nd, fun e he => ?_, fun e he d hd => ?_⟩
  · obtain ⟨j, h1, h2, _⟩ := mkG_mem he
    have e1 : e.2.1 = j := by omega
    rw [e1, List.getElem?_append_left (List.getElem?_eq_some_iff.mp h2).1]
    exact ⟨h2, hv _ (List.mem_of_getElem? h2)⟩
  · obtain ⟨j, h1, h2, h3⟩ := mkG_mem he
    have e1 : e.2.1 = j := by omega
    rw [e1]
    rw [hd] at h3
    obtain ⟨v, q1, q2⟩ := r.get h3.symm
    refine ⟨v, ?_, q2⟩
    unfold L2.start
    have l : j < vs.length := (List.getElem?_eq_some_iff.mp q1).1
    rw [List.getElem?_append_left (by simpa using l), List.getElem?_map, q1]; rfl
end

/-! ### 3. The readings that are the runs themselves -/
section
variable (X : Cx)
def semE (e : Expr) : TE := fun σ H Q => ∀ pins s, Inv X pins σ H s → wpAny (model X.prog X.w) X.A (eval e X.env) (EP X pins σ Q) X.xe s
def semT (e : Expr) : TT := fun σ H Q => ∀ pins s, Inv X pins σ H s → wpAny (model X.prog X.w) X.A (isTrue e X.env (eval e X.env)) (TP X pins σ Q) X.xe s
def semW (e : Expr) : TT := fun σ H Q => ∀ whole pins s, Inv X pins σ H s → wpAny (model X.prog X.w) X.A (isTrue e X.env whole) (TP X pins σ Q) X.xe s
def semA (es : List Expr) : TA := fun σ H Q => ∀ pos pins s, Inv X pins σ H s → wpAny (model X.prog X.w) X.A (spliced (backTo pos (starEach es X.env))) (AP X pins σ Q) X.xe s
def semS (st : Stmt) : TS := fun D σ H => ∀ pins s, Inv X pins σ H s → wpAny (model X.prog X.w) X.A (exec st X.env) (SP X pins D) X.xe s
def semB (sts : List Stmt) : TS := fun D σ H => ∀ pins s, Inv X pins σ H s → wpAny (model X.prog X.w) X.A (execs sts X.env) (SP X pins D) X.xe s
def semG (tg : Expr) : TG := fun v σ H Q => ∀ pins s u, Inv X pins σ H s → RelV v u → wpAny (model X.prog X.w) X.A (assign tg X.env u) (fun _ s' => ∃ σ' H', Inv X pins σ' H' s' ∧ Q σ' H') X.xe s
end
section
variable {X : Cx} {e : Expr} {es : List Expr} {st : Stmt} {sts : List Stmt} {σ : St} {H : Hp}
theorem semE_ok : PE X e (semE X e) := ⟨fun pins s σ H Q I h => h pins s I⟩
theorem semT_ok : PT X e (semT X e) := ⟨fun pins s σ H Q I h => h pins s I⟩
theorem semW_ok : PW X e (semW X e) := ⟨fun wh pins s σ H Q I h => h wh pins s I⟩
theorem semA_ok : PA X es (semA X es) := ⟨fun pos pins s σ H Q I h => h pos pins s I⟩
theorem semS_ok : PS X st (semS X st) := ⟨fun pins s σ H D I h => h pins s I⟩
theorem semB_ok : PSs X sts (semB X sts) := ⟨fun pins s σ H D I h => h pins s I⟩
theorem semG_ok : PG X e (semG X e) := ⟨fun pins s σ H v u Q I r h => h pins s u I r⟩
theorem semE_of {t : TE} {Q : VK} (h : PE X e t) (q : t σ H Q) : semE X e σ H Q := fun pins s I => h.run pins s σ H Q I q
theorem semT_of {t : TT} {Q : Bool → Hp → Prop} (h : PT X e t) (q : t σ H Q) : semT X e σ H Q := fun pins s I => h.run pins s σ H Q I q
theorem semW_of {t : TT} {Q : Bool → Hp → Prop} (h : PW X e t) (q : t σ H Q) : semW X e σ H Q := fun wh pins s I => h.run wh pins s σ H Q I q
theorem semA_of {t : TA} {Q : List V → Hp → Prop} (h : PA X es t) (q : t σ H Q) : semA X es σ H Q := fun pos pins s I => h.run pos pins s σ H Q I q
theorem semB_of {t : TS} {D : Ends} (h : PSs X sts t) (q : t D σ H) : semB X sts D σ H := fun pins s I => h.run pins s σ H D I q
theorem semS_of {t : TS} {D : Ends} (h : PS X st t) (q : t D σ H) : semS X st D σ H := fun pins s I => h.run pins s σ H D I q
theorem semG_of {t : TG} {v : V} {Q : St → Hp → Prop} (h : PG X e t) (q : t v σ H Q) : semG X e v σ H Q := fun pins s u I r => h.run pins s σ H v u Q I r q
theorem semE_mono {Q Q' : VK} (h : semE X e σ H Q) (hq : ∀ v H', Q v H' → Q' v H') : semE X e σ H Q' := fun pins s I =>
  thn (h pins s I) fun _ _ ⟨v, H', I', r, q⟩ => ⟨v, H', I', r, hq v H' q⟩
theorem semT_mono {Q Q' : Bool → Hp → Prop} (h : semT X e σ H Q) (hq : ∀ v H', Q v H' → Q' v H') : semT X e σ H Q' := fun pins s I =>
  thn (h pins s I) fun _ _ ⟨H', I', q⟩ => ⟨H', I', hq _ H' q⟩
theorem semW_mono {Q Q' : Bool → Hp → Prop} (h : semW X e σ H Q) (hq : ∀ v H', Q v H' → Q' v H') : semW X e σ H Q' := fun wh pins s I =>
  thn (h wh pins s I) fun _ _ ⟨H', I', q⟩ => ⟨H', I', hq _ H' q⟩
theorem semA_mono {Q Q' : List V → Hp → Prop} (h : semA X es σ H Q) (hq : ∀ v H', Q v H' → Q' v H') : semA X es σ H Q' := fun pos pins s I =>
  thn (h pos pins s I) fun _ _ ⟨v, H', I', r, q⟩ => ⟨v, H', I', r, hq v H' q⟩
theorem semG_mono {v : V} {Q Q' : St → Hp → Prop} (h : semG X e v σ H Q) (hq : ∀ v H', Q v H' → Q' v H') : semG X e v σ H Q' := fun pins s u I r =>
  thn (h pins s u I r) fun _ _ ⟨σ', H', I', q⟩ => ⟨σ', H', I', hq σ' H' q⟩
theorem SP.mono {pins : List (Addr × Obj)} {D D' : Ends} {f : Flow} {s' : Shared} (h : SP X pins D f s') (h1 : ∀ σ H, D.nx σ H → D'.nx σ H) (h2 : ∀ v H, D.rt v H → D'.rt v H) (h3 : ∀ σ H, D.bk σ H → D'.bk σ H) (h4 : ∀ σ H, D.ct σ H → D'.ct σ H) : SP X pins D' f s' := by
  cases f with
  | next => obtain ⟨σ', H', I, q⟩ := h; exact ⟨σ', H', I, h1 _ _ q⟩
  | brk => obtain ⟨σ', H', I, q⟩ := h; exact ⟨σ', H', I, h3 _ _ q⟩
  | cont => obtain ⟨σ', H', I, q⟩ := h; exact ⟨σ', H', I, h4 _ _ q⟩
  | ret u => obtain ⟨v, σ', H', I, r, q⟩ := h; exact ⟨v, σ', H', I, r, h2 _ _ q⟩
theorem semB_mono {D D' : Ends} (h : semB X sts D σ H) (h1 : ∀ σ H, D.nx σ H → D'.nx σ H) (h2 : ∀ v H, D.rt v H → D'.rt v H) (h3 : ∀ σ H, D.bk σ H → D'.bk σ H) (h4 : ∀ σ H, D.ct σ H → D'.ct σ H) : semB X sts D' σ H := fun pins s I =>
  thn (h pins s I) fun _ _ q => SP.mono q h1 h2 h3 h4
end

/-! ### 4. The judgements over data -/
/-- what is wanted of an exception: the slots, its class's name, its fields, the memory -/
abbrev DX := Ga → Str → List (Str × D) → Mm → Prop
/-- where a body begins (its data, its frame), and its wish about exceptions -/
structure Wi where
  h0 : Hp
  f0 : Hp
  ed : DX
section
variable (X : Cx) (w : Wi)
def LiftX : WX := fun cls d σ H' => ∃ (c : Str) (fs : List (Str × D)) (dd : Addr) (ws : List (Str × V)) (F' Hb' : Hp) (Γ' : Ga) (M' : Mm), cls = .ref (ca X.mg c) ∧ d = some dd ∧ H' dd = some (.xd ws) ∧ RepF X.K X.mg Hb' ws fs ∧ Ex w.h0 Hb' ∧ Ex w.f0 F' ∧
  Hs X.K X.mg F' Hb' H' M' ∧ Slots X.K X.mg X.N X.env.scope Hb' σ Γ' ∧ w.ed Γ' c fs M'
def WOk : Prop := Takes X (LiftX X w)
/-- the state: the heap, the slots -/
structure At (F Hb H : Hp) (σ : St) (Γ : Ga) (M : Mm) : Prop where
  wok : WOk X w
  h0 : Ex w.h0 Hb
  f0 : Ex w.f0 F
  hs : Hs X.K X.mg F Hb H M
  sl : Slots X.K X.mg X.N X.env.scope Hb σ Γ
def PostE (F Hb : Hp) (σ : St) (Γ : Ga) (Q : D → Mm → Prop) : VK := fun v H' => ∃ Hb' d M', Ex Hb Hb' ∧ At X w F Hb' H' σ Γ M' ∧ Rep X.K X.mg Hb' v d ∧ Q d M'
def PostT (F Hb : Hp) (σ : St) (Γ : Ga) (Q : Bool → Mm → Prop) : Bool → Hp → Prop := fun b H' => ∃ Hb' M', Ex Hb Hb' ∧ At X w F Hb' H' σ Γ M' ∧ Q b M'
def PostA (F Hb : Hp) (σ : St) (Γ : Ga) (Q : List D → Mm → Prop) : List V → Hp → Prop := fun vs H' => ∃ Hb' ds M', Ex Hb Hb' ∧ At X w F Hb' H' σ Γ M' ∧ Reps X.K X.mg Hb' vs ds ∧ Q ds M'
/-- where a block may end -/
structure Po where
  nx : Ga → Mm → Prop
  rt : D → Mm → Prop
  bk : Ga → Mm → Prop := fun _ _ => False
  ct : Ga → Mm → Prop := fun _ _ => False
def PostN (F Hb : Hp) (Q : Ga → Mm → Prop) : St → Hp → Prop := fun σ' H' => ∃ Hb' Γ' M', Ex Hb Hb' ∧ At X w F Hb' H' σ' Γ' M' ∧ Q Γ' M'
def PostR (F Hb : Hp) (Q : D → Mm → Prop) : VK := fun v H' => ∃ Hb' d M', Ex Hb Hb' ∧ Hs X.K X.mg F Hb' H' M' ∧ Rep X.K X.mg Hb' v d ∧ Q d M'
def EndsOf (F Hb : Hp) (P : Po) : Ends := { nx := PostN X w F Hb P.nx, rt := PostR X F Hb P.rt, bk := PostN X w F Hb P.bk, ct := PostN X w F Hb P.ct }
structure DE (e : Expr) (Γ : Ga) (M : Mm) (Q : D → Mm → Prop) : Prop where
  run : ∀ F σ H Hb, At X w F Hb H σ Γ M → semE X e σ H (PostE X w F Hb σ Γ Q)
structure DT (e : Expr) (Γ : Ga) (M : Mm) (Q : Bool → Mm → Prop) : Prop where
  run : ∀ F σ H Hb, At X w F Hb H σ Γ M → semT X e σ H (PostT X w F Hb σ Γ Q)
structure DW (e : Expr) (Γ : Ga) (M : Mm) (Q : Bool → Mm → Prop) : Prop where
  run : ∀ F σ H Hb, At X w F Hb H σ Γ M → semW X e σ H (PostT X w F Hb σ Γ Q)
structure DA (es : List Expr) (Γ : Ga) (M : Mm) (Q : List D → Mm → Prop) : Prop where
  run : ∀ F σ H Hb, At X w F Hb H σ Γ M → semA X es σ H (PostA X w F Hb σ Γ Q)
structure DS (sts : List Stmt) (Γ : Ga) (M : Mm) (P : Po) : Prop where
  run : ∀ F σ H Hb, At X w F Hb H σ Γ M → semB X sts (EndsOf X w F Hb P) σ H
/-- a target takes a value -/
structure DG (tg : Expr) (d : D) (Γ : Ga) (M : Mm) (Q : Ga → Mm → Prop) : Prop where
  run : ∀ F σ H Hb v, At X w F Hb H σ Γ M → Rep X.K X.mg Hb v d → semG X tg v σ H (PostN X w F Hb Q)
end
section
variable {X : Cx} {w : Wi} {F H0 Hb Hb' H H' : Hp} {σ : St} {Γ : Ga} {M : Mm} {p : Addr}
theorem At.slotsTo (x : At X w F Hb H σ Γ M) {σ' : St} {Γ' : Ga} (sl : Slots X.K X.mg X.N X.env.scope Hb σ' Γ') : At X w F Hb H σ' Γ' M := ⟨x.wok, x.h0, x.f0, x.hs, sl⟩
theorem At.new (x : At X w F Hb H σ Γ M) (h : H p = none) (o : HO) : Ex Hb (upd Hb p o) ∧ At X w F (upd Hb p o) (upd H p o) σ Γ M :=
  have e := Ex.new (o := o) (x.hs.ex.free h)
  ⟨e, x.wok, x.h0.trans e, x.f0, x.hs.new h o, x.sl.mono e⟩
theorem At.junk (x : At X w F Hb H σ Γ M) (h : H p = none) (o : HO) : At X w F Hb (upd H p o) σ Γ M := ⟨x.wok, x.h0, x.f0, x.hs.junk h o, x.sl⟩
theorem At.put (x : At X w F Hb H σ Γ M) {v : V} {d : D} {y : Str} {Γ' : Ga} {i : Nat} (p : Put Γ y d Γ' i) (r : Rep X.K X.mg Hb v d) : At X w F Hb H (σ.set i (some v)) Γ' M := x.slotsTo (x.sl.put p r)
theorem At.cell (x : At X w F Hb H σ Γ M) (h : H p = none) {o : HO} {c : Cell} (hc : CellOk X.K X.mg Hb (upd H p o) p c) : At X w F Hb (upd H p o) σ Γ (M.put p c) := ⟨x.wok, x.h0, x.f0, x.hs.cell h hc, x.sl⟩
theorem At.write (x : At X w F Hb H σ Γ M) {c0 : Cell} (h : M p = some c0) {o : HO} {c : Cell} (hc : CellOk X.K X.mg Hb (upd H p o) p c) : At X w F Hb (upd H p o) σ Γ (M.put p c) := ⟨x.wok, x.h0, x.f0, x.hs.write h hc, x.sl⟩
/-- a value, the state as it is -/
theorem At.val (x : At X w F Hb H σ Γ M) (e : Ex H0 Hb) {v : V} {d : D} {Q : D → Mm → Prop} (r : Rep X.K X.mg Hb v d) (q : Q d M) : PostE X w F H0 σ Γ Q v H := ⟨Hb, d, M, e, x, r, q⟩
/-- a new list, a new tuple -/
theorem At.lst (x : At X w F Hb H σ Γ M) (e0 : Ex H0 Hb) {vs : List V} {ds : List D} {Q : D → Mm → Prop} (r : Reps X.K X.mg Hb vs ds) (h : H p = none) (q : Q (.lst ds) M) : PostE X w F H0 σ Γ Q (.ref p) (upd H p (.lst vs)) := by
  obtain ⟨e, a⟩ := x.new h (.lst vs)
  exact ⟨_, _, M, e0.trans e, a, .lst upd_same (r.mono e), q⟩
theorem At.tup (x : At X w F Hb H σ Γ M) (e0 : Ex H0 Hb) {vs : List V} {ds : List D} {Q : D → Mm → Prop} (r : Reps X.K X.mg Hb vs ds) (h : H p = none) (q : Q (.tup ds) M) : PostE X w F H0 σ Γ Q (.ref p) (upd H p (.tup vs)) := by
  obtain ⟨e, a⟩ := x.new h (.tup vs)
  exact ⟨_, _, M, e0.trans e, a, .tup (SqT.of upd_same) (r.mono e), q⟩
theorem PostE.imp {Q Q' : D → Mm → Prop} {v : V} (h : PostE X w F Hb σ Γ Q v H) (q : ∀ d M, Q d M → Q' d M) : PostE X w F Hb σ Γ Q' v H := by
  obtain ⟨a, d, M', b, c, r, z⟩ := h; exact ⟨a, d, M', b, c, r, q _ _ z⟩
theorem PostN.back {Q : Ga → Mm → Prop} (e : Ex H0 Hb) (h : PostN X w F Hb Q σ H) : PostN X w F H0 Q σ H := by
  obtain ⟨a, b, c, d, r⟩ := h; exact ⟨a, b, c, e.trans d, r⟩
theorem PostR.back {Q : D → Mm → Prop} {v : V} (e : Ex H0 Hb) (h : PostR X F Hb Q v H) : PostR X F H0 Q v H := by
  obtain ⟨a, b, c, d, r⟩ := h; exact ⟨a, b, c, e.trans d, r⟩
theorem semB_back {sts : List Stmt} {P : Po} (e : Ex H0 Hb) (h : semB X sts (EndsOf X w F Hb P) σ H) : semB X sts (EndsOf X w F H0 P) σ H :=
  semB_mono h (fun _ _ q => PostN.back e q) (fun _ _ q => PostR.back e q) (fun _ _ q => PostN.back e q) (fun _ _ q => PostN.back e q)
end
end L3
namespace L3
open PySem PySem.Spec PyProof.Rows L2
abbrev St := L2.St

/-! ### 5. What a context gives -/
/-- the names of a body: those that may be stored, the plain locals, the cells, the globals, the built-ins that the module leaves as they are -/
structure Nm where
  locs : List Str
  lcl : List Str
  cel : List Str
  glb : List Str
  bts : List Str
structure Sc (X : Cx) (k : Nat) (n : Nm) : Prop where
  nd : X.N.Nodup
  calm : X.calm = true
  po : PassesOwn (model X.prog X.w) X.A X.env X.xe
  room : Room k X.A
  kd : X.env.scope.kind = .function
  loc : ∀ x ∈ n.locs, Loc X.env.scope x ∧ (X.fn x = true ∨ X.env.scope.names.lookup x = some .local)
  lcl : ∀ x ∈ n.lcl, X.env.scope.names.lookup x = some .local
  cel : ∀ x ∈ n.cel, X.env.scope.names.lookup x = some .cell
  gl : ∀ x ∈ n.glb, Gl X x ∧ okN x = true
  bt : ∀ x ∈ n.bts, X.mg x = none
theorem okN_d {x : Str} (h : okN x = true) : (x == ("__debug__" : Str)) = false := by
  unfold okN at h; simp only [Bool.and_eq_true, Bool.not_eq_true'] at h; exact h.1.1
theorem okN_c {x : Str} (h : okN x = true) : (x == ("__classdict__" : Str)) = false := by
  unfold okN at h; simp only [Bool.and_eq_true, Bool.not_eq_true'] at h; exact h.1.2
theorem okN_n {x : Str} (h : okN x = true) : x ≠ "__name__" := by
  unfold okN at h; simp only [Bool.and_eq_true, Bool.not_eq_true'] at h
  intro e; subst e; simp at h

section
variable {X : Cx} {w : Wi} {Γ Γ' : Ga} {M : Mm} {Q : D → Mm → Prop} {QT : Bool → Mm → Prop} {x : Str} {i : Nat} {d : D} {a b c e : Expr} {es rest' : List Expr} {pos : Pos} {k : Nat} {n : Nm} {P : Po}

/-! ### 6. Names and constants -/
theorem de_name (h : Has Γ x i d) (q : Q d M) : DE X w (.Name x pos) Γ M Q := .mk fun F σ H Hb A => by
  obtain ⟨h1, h2, h3⟩ := A.sl.nm _ h.mem
  obtain ⟨v, e1, e2⟩ := A.sl.get _ h.mem d rfl
  exact semE_of (pe_var h1 h2 (okN_d h3) (okN_c h3)) ⟨v, e1, A.val (Ex.refl _) e2 q⟩
/-- the data of a cell -/
def Cell.data : Cell → D
  | .l ds => .lst ds
  | .k kvs => .dK kvs
  | .t kvs => .dT kvs
  | .o c fs => .obj c fs
theorem CellOk.rep {K : PySem.W.Frag} {mg : Str → Option Value} {Hb H : Hp} {p : Addr} {c : Cell} (h : CellOk K mg Hb H p c) : ∃ o, H p = some o ∧ ∀ Hb', Ex Hb Hb' → Hb' p = some o → Rep K mg Hb' (.ref p) c.data := by
  cases c with
  | l ds => obtain ⟨vs, h1, h2⟩ := h; exact ⟨_, h1, fun Hb' e z => .lst z (h2.mono e)⟩
  | k ds => obtain ⟨vs, h1, h2⟩ := h; exact ⟨_, h1, fun Hb' e z => .dK z (h2.mono e)⟩
  | t ds => obtain ⟨vs, h1, h2⟩ := h; exact ⟨_, h1, fun Hb' e z => .dT z (h2.mono e)⟩
  | o c fs => obtain ⟨dx, vs, h1, h2⟩ := h; exact ⟨_, h1, fun Hb' e z => .obj z (h2.mono e)⟩
/-- a mutable thing is data from here on -/
theorem At.freeze {F Hb H H0 : Hp} {σ : St} {p : Addr} {c : Cell} (A : At X w F Hb H σ Γ M) (e0 : Ex H0 Hb) (h : M p = some c) (q : Q c.data (M.del p)) : PostE X w F H0 σ Γ Q (.ref p) H := by
  obtain ⟨o, e1, r⟩ := (A.hs.ce p c h).2.rep
  obtain ⟨hs, ex⟩ := A.hs.freeze h e1
  exact ⟨_, _, _, e0.trans ex, ⟨A.wok, A.h0.trans ex, A.f0, hs, A.sl.mono ex⟩, r _ ex upd_same, q⟩
theorem rep_ptr {K : PySem.W.Frag} {mg : Str → Option Value} {Hb : Hp} {v : V} {p : Addr} (r : Rep K mg Hb v (.ptr p)) : v = .ref p := by cases r; rfl
theorem de_freeze (h : DE X w e Γ M fun d M1 => ∃ p cl, d = .ptr p ∧ M1 p = some cl ∧ Q cl.data (M1.del p)) : DE X w e Γ M Q := .mk fun F σ H Hb A =>
  semE_mono (h.run F σ H Hb A) fun v H1 ⟨Hb1, d1, M1, e1, A1, r1, p, cl, h1, h2, h3⟩ => by
    subst h1; rw [rep_ptr r1]; exact A1.freeze e1 h2 h3
theorem de_int {i : Int} {j} (q : Q (.int i) M) : DE X w (.Constant (.int i) j pos) Γ M Q := .mk fun F σ H Hb A => semE_of pe_int (A.val (Ex.refl _) .int q)
theorem de_bl {i : Bool} {j} (q : Q (.bl i) M) : DE X w (.Constant (.bool i) j pos) Γ M Q := .mk fun F σ H Hb A => semE_of pe_bl (A.val (Ex.refl _) .bl q)
theorem de_non {j} (q : Q .non M) : DE X w (.Constant .none j pos) Γ M Q := .mk fun F σ H Hb A => semE_of pe_non (A.val (Ex.refl _) .non q)
theorem de_str {s : Str} {j} (q : Q (.str s) M) : DE X w (.Constant (.str s) j pos) Γ M Q := .mk fun F σ H Hb A => semE_of pe_str (A.val (Ex.refl _) .str q)
theorem de_imp {Q' : D → Mm → Prop} (h : DE X w e Γ M Q) (q : ∀ d M, Q d M → Q' d M) : DE X w e Γ M Q' := .mk fun F σ H Hb A => semE_mono (h.run F σ H Hb A) fun _ _ z => z.imp q
theorem dt_imp {Q' : Bool → Mm → Prop} (h : DT X w e Γ M QT) (q : ∀ d M, QT d M → Q' d M) : DT X w e Γ M Q' := .mk fun F σ H Hb A => semT_mono (h.run F σ H Hb A) fun _ _ ⟨a, b, c, d, z⟩ => ⟨a, b, c, d, q _ _ z⟩
theorem dw_imp {Q' : Bool → Mm → Prop} (h : DW X w e Γ M QT) (q : ∀ d M, QT d M → Q' d M) : DW X w e Γ M Q' := .mk fun F σ H Hb A => semW_mono (h.run F σ H Hb A) fun _ _ ⟨a, b, c, d, z⟩ => ⟨a, b, c, d, q _ _ z⟩

/-! ### 7. Operators by values -/
abbrev PP2 := D → D → Mm → (D → Mm → Prop) → Prop
abbrev PP1 := D → Mm → (D → Mm → Prop) → Prop
abbrev PPL := List D → Mm → (D → Mm → Prop) → Prop
abbrev PPM := D → List D → Mm → (D → Mm → Prop) → Prop
end
section
variable (X : Cx)
def semO (f : Value → Value → Sem Value) : R2 := fun x y H Q => ∀ pins s σ v u, Inv X pins σ H s → RelV x v → RelV y u → wpAny (model X.prog X.w) X.A (f v u) (EP X pins σ Q) X.xe s
def semU (f : Value → Sem Value) : V → Hp → VK → Prop := fun x H Q => ∀ pins s σ v, Inv X pins σ H s → RelV x v → wpAny (model X.prog X.w) X.A (f v) (EP X pins σ Q) X.xe s
def semC (f : Value) : List V → Hp → VK → Prop := fun xs H Q => ∀ pins s σ us, Inv X pins σ H s → Vals xs us → wpAny (model X.prog X.w) X.A (call f us) (EP X pins σ Q) X.xe s
def semM (id : String) : V → List V → Hp → VK → Prop := fun x xs H Q => ∀ pins s σ v us, Inv X pins σ H s → RelV x v → Vals xs us → wpAny (model X.prog X.w) X.A (call (.builtin id) (v :: us)) (EP X pins σ Q) X.xe s
def semI : R2 := fun x y H Q => ∀ (value slice : Expr) pins s σ v u, Inv X pins σ H s → RelV x v → RelV y u → subscripted slice false v u = operate [v, u] (getItem v u) → wpAny (model X.prog X.w) X.A (subscriptTail value slice v u) (EP X pins σ Q) X.xe s
/-- an operation over data -/
def OD (f : Value → Value → Sem Value) (pp : PP2) : Prop := ∀ (w : Wi) (F H0 Hb H : Hp) (σ : St) (Γ : Ga) (M : Mm) (v u : V) (x y : D) (Q : D → Mm → Prop), At X w F Hb H σ Γ M → Ex H0 Hb → Rep X.K X.mg Hb v x → Rep X.K X.mg Hb u y → pp x y M Q → semO X f v u H (PostE X w F H0 σ Γ Q)
def UD (f : Value → Sem Value) (pp : PP1) : Prop := ∀ (w : Wi) (F H0 Hb H : Hp) (σ : St) (Γ : Ga) (M : Mm) (v : V) (x : D) (Q : D → Mm → Prop), At X w F Hb H σ Γ M → Ex H0 Hb → Rep X.K X.mg Hb v x → pp x M Q → semU X f v H (PostE X w F H0 σ Γ Q)
def CD (f : Value) (pp : PPL) : Prop := ∀ (w : Wi) (F H0 Hb H : Hp) (σ : St) (Γ : Ga) (M : Mm) (vs : List V) (xs : List D) (Q : D → Mm → Prop), At X w F Hb H σ Γ M → Ex H0 Hb → Reps X.K X.mg Hb vs xs → pp xs M Q → semC X f vs H (PostE X w F H0 σ Γ Q)
def MD (T id : String) (pp : PPM) : Prop := ∀ (w : Wi) (F H0 Hb H : Hp) (σ : St) (Γ : Ga) (M : Mm) (v : V) (vs : List V) (x : D) (xs : List D) (Q : D → Mm → Prop), At X w F Hb H σ Γ M → Ex H0 Hb → Rep X.K X.mg Hb v x → Reps X.K X.mg Hb vs xs → pp x xs M Q → semM X id v vs H (PostE X w F H0 σ Γ Q)
def XD (pp : PP2) : Prop := ∀ (w : Wi) (F H0 Hb H : Hp) (σ : St) (Γ : Ga) (M : Mm) (v u : V) (x y : D) (Q : D → Mm → Prop), At X w F Hb H σ Γ M → Ex H0 Hb → Rep X.K X.mg Hb v x → Rep X.K X.mg Hb u y → pp x y M Q → semI X v u H (PostE X w F H0 σ Γ Q)
end
section
variable {X : Cx} {w : Wi} {Γ Γ' : Ga} {M : Mm} {Q : D → Mm → Prop} {QT : Bool → Mm → Prop} {x : Str} {i : Nat} {d : D} {a b c e : Expr} {es rest' : List Expr} {pos : Pos} {k : Nat} {n : Nm} {P : Po}
theorem semO_ok {f} : OpR X f (semO X f) := fun pins s σ H x y v u Q I rx ry h => h pins s σ v u I rx ry
theorem semO_of {f} {r : R2} (ho : OpR X f r) {x y : V} {H : Hp} {Q : VK} (q : r x y H Q) : semO X f x y H Q := fun pins s σ v u I rx ry => ho pins s σ H x y v u Q I rx ry q
theorem semO_mono {f} {x y : V} {H : Hp} {Q Q' : VK} (h : semO X f x y H Q) (hq : ∀ v H', Q v H' → Q' v H') : semO X f x y H Q' := fun pins s σ v u I rx ry => thn (h pins s σ v u I rx ry) fun _ _ ⟨v, H', I', r, q⟩ => ⟨v, H', I', r, hq v H' q⟩
theorem semU_ok {f} : UnR X f (semU X f) := fun pins s σ H x v Q I rx h => h pins s σ v I rx
theorem semU_of {f} {r} (ho : UnR X f r) {x : V} {H : Hp} {Q : VK} (q : r x H Q) : semU X f x H Q := fun pins s σ v I rx => ho pins s σ H x v Q I rx q
theorem semC_ok {f} : CallR X f (semC X f) := fun pins s σ H x v Q I rx h => h pins s σ v I rx
theorem semC_of {f} {r} (ho : CallR X f r) {xs : List V} {H : Hp} {Q : VK} (q : r xs H Q) : semC X f xs H Q := fun pins s σ v I rx => ho pins s σ H xs v Q I rx q
theorem semM_ok {id} : MtR X id (semM X id) := fun pins s σ H x xs v us Q I rx rs h => h pins s σ v us I rx rs
theorem semM_of {id} {r} (ho : MtR X id r) {x : V} {xs : List V} {H : Hp} {Q : VK} (q : r x xs H Q) : semM X id x xs H Q := fun pins s σ v us I rx rs => ho pins s σ H x xs v us Q I rx rs q
theorem semI_ok : IxR X (semI X) := fun va sl pins s σ H x y v u Q I rx ry h hs => h va sl pins s σ v u I rx ry hs
theorem semI_of {r : R2} (ho : IxR X r) {x y : V} {H : Hp} {Q : VK} (q : r x y H Q) : semI X x y H Q := fun va sl pins s σ v u I rx ry hs => ho va sl pins s σ H x y v u Q I rx ry q hs
theorem de_two {F Hb H : Hp} {σ : St} {f} {pp : PP2} (hp : OD X f pp) (A : At X w F Hb H σ Γ M) (h : DE X w a Γ M fun x M1 => DE X w b Γ M1 fun y M2 => pp x y M2 Q) :
    semE X a σ H fun v H1 => semE X b σ H1 fun u H2 => semO X f v u H2 (PostE X w F Hb σ Γ Q) := by
  refine semE_mono (h.run F σ H Hb A) fun v H1 ⟨Hb1, d1, M1, e1, A1, r1, q1⟩ => ?_
  refine semE_mono (q1.run F σ H1 Hb1 A1) fun u H2 ⟨Hb2, d2, M2, e2, A2, r2, q2⟩ => ?_
  exact hp w F Hb Hb2 H2 σ Γ M2 v u d1 d2 Q A2 (e1.trans e2) (r1.mono e2) r2 q2
theorem de_bin {op : Operator} {pp : PP2} (hp : OD X (binaryOp op) pp) (h : DE X w a Γ M fun x M1 => DE X w b Γ M1 fun y M2 => pp x y M2 Q) : DE X w (.BinOp a op b pos) Γ M Q :=
  .mk fun F σ H Hb A => semE_of (pe_op semO_ok semE_ok semE_ok) (de_two hp A h)
theorem de_una {op : UnaryOp} {pp : PP1} (hp : UD X (unaryOp op) pp) (h : DE X w a Γ M fun x M1 => pp x M1 Q) : DE X w (.UnaryOp op a pos) Γ M Q :=
  .mk fun F σ H Hb A => semE_of (pe_un semU_ok semE_ok) (semE_mono (h.run F σ H Hb A) fun v H1 ⟨Hb1, d1, M1, e1, A1, r1, q1⟩ => hp w F Hb Hb1 H1 σ Γ M1 v d1 Q A1 e1 r1 q1)
theorem de_cmp {op : CmpOp} {pp : PP2} (hp : OD X (compareOp op) pp) (hm : behindInMarks op b = false) (h : DE X w a Γ M fun x M1 => DE X w b Γ M1 fun y M2 => pp x y M2 Q) : DE X w (.Compare a [op] [b] pos) Γ M Q :=
  .mk fun F σ H Hb A => semE_of (pe_cmpR semO_ok semE_ok semE_ok hm) (de_two hp A h)
theorem rep_bl {K : PySem.W.Frag} {mg : Str → Option Value} {Hb : Hp} {v : V} {b : Bool} (r : Rep K mg Hb v (.bl b)) : v = .bl b := by cases r; rfl
theorem PostE.test {F Hb H : Hp} {σ : St} {v : V} (h : PostE X w F Hb σ Γ (fun z M3 => ∃ c, z = .bl c ∧ QT c M3) v H) : ∃ k, v = .bl k ∧ PostT X w F Hb σ Γ QT k H := by
  obtain ⟨Hb', d, M', e1, A1, r1, c, rfl, q⟩ := h
  exact ⟨c, rep_bl r1, Hb', M', e1, A1, q⟩
theorem dt_cmp {op : CmpOp} {pp : PP2} (hp : OD X (compareOp op) pp) (hm : behindInMarks op b = false) (h : DE X w a Γ M fun x M1 => DE X w b Γ M1 fun y M2 => pp x y M2 fun z M3 => ∃ c, z = .bl c ∧ QT c M3) : DT X w (.Compare a [op] [b] pos) Γ M QT :=
  .mk fun F σ H Hb A => semT_of (pt_cmpR semO_ok semE_ok semE_ok hm) (semE_mono (de_two hp A h) fun v H1 q => semE_mono q fun u H2 q2 => semO_mono q2 fun z H3 q3 => q3.test)
/-- a value that is a bool, as a test (a name, a call, an attribute, a subscript ..) -/
theorem dt_val (he : ∀ whole, isTrue e X.env whole = (do let v ← whole; standAt e.pos; holding [v] (truthy v))) (h : DE X w e Γ M fun z M3 => ∃ c, z = .bl c ∧ QT c M3) : DT X w e Γ M QT :=
  .mk fun F σ H Hb A => semT_of (pt_val semE_ok he) (semE_mono (h.run F σ H Hb A) fun v H1 q => q.test)
/-- a op b op' c -/
theorem de_chain {op op' : CmpOp} {pp pp' : PP2} (hp : OD X (compareOp op) pp) (hp' : OD X (compareOp op') pp') (hm : lastMarks [op, op'] [b, c] = false)
    (h : DE X w a Γ M fun x M1 => DE X w b Γ M1 fun y M2 => pp x y M2 fun z M3 => ∃ t, z = .bl t ∧ (t = true → DE X w c Γ M3 fun y' M4 => pp' y y' M4 Q) ∧ (t = false → Q (.bl false) M3)) : DE X w (.Compare a [op, op'] [b, c] pos) Γ M Q := .mk fun F σ H Hb A => by
  refine semE_of (pe_chain semO_ok semO_ok semE_ok semE_ok semE_ok hm) ?_
  refine semE_mono (h.run F σ H Hb A) fun v H1 ⟨Hb1, d1, M1, e1, A1, r1, q1⟩ => ?_
  refine semE_mono (q1.run F σ H1 Hb1 A1) fun u H2 ⟨Hb2, d2, M2, e2, A2, r2, q2⟩ => ?_
  refine semO_mono (hp w F Hb2 Hb2 H2 σ Γ M2 v u d1 d2 _ A2 (Ex.refl _) (r1.mono e2) r2 q2) fun z H3 ⟨Hb3, d3, M3, e3, A3, r3, t, ht, q3, q4⟩ => ?_
  subst ht
  have ez := rep_bl r3
  subst ez
  refine ⟨t, rfl, ?_⟩
  cases t with
  | true =>
    rw [if_pos rfl]
    refine semE_mono ((q3 rfl).run F σ H3 Hb3 A3) fun v4 H4 ⟨Hb4, d4, M4, e4, A4, r4, q5⟩ => ?_
    exact hp' w F Hb Hb4 H4 σ Γ M4 u v4 d2 d4 Q A4 (((e1.trans e2).trans e3).trans e4) ((r2.mono e3).mono e4) r4 q5
  | false =>
    rw [if_neg Bool.false_ne_true]
    exact A3.val ((e1.trans e2).trans e3) .bl (q4 rfl)
theorem dt_chain {op op' : CmpOp} {pp pp' : PP2} (hp : OD X (compareOp op) pp) (hp' : OD X (compareOp op') pp') (hm : lastMarks [op, op'] [b, c] = false)
    (h : DE X w a Γ M fun x M1 => DE X w b Γ M1 fun y M2 => pp x y M2 fun z M3 => ∃ t, z = .bl t ∧ (t = true → DE X w c Γ M3 fun y' M4 => pp' y y' M4 fun z' M5 => ∃ t', z' = .bl t' ∧ QT t' M5) ∧ (t = false → QT false M3)) : DT X w (.Compare a [op, op'] [b, c] pos) Γ M QT := .mk fun F σ H Hb A => by
  refine semT_of (pt_chain semO_ok semO_ok semE_ok semE_ok semE_ok hm) ?_
  refine semE_mono (h.run F σ H Hb A) fun v H1 ⟨Hb1, d1, M1, e1, A1, r1, q1⟩ => ?_
  refine semE_mono (q1.run F σ H1 Hb1 A1) fun u H2 ⟨Hb2, d2, M2, e2, A2, r2, q2⟩ => ?_
  refine semO_mono (hp w F Hb2 Hb2 H2 σ Γ M2 v u d1 d2 _ A2 (Ex.refl _) (r1.mono e2) r2 q2) fun z H3 ⟨Hb3, d3, M3, e3, A3, r3, t, ht, q3, q4⟩ => ?_
  subst ht
  have ez := rep_bl r3
  subst ez
  refine ⟨t, rfl, ?_⟩
  cases t with
  | true =>
    rw [if_pos rfl]
    refine semE_mono ((q3 rfl).run F σ H3 Hb3 A3) fun v4 H4 ⟨Hb4, d4, M4, e4, A4, r4, q5⟩ => ?_
    exact semO_mono (hp' w F Hb Hb4 H4 σ Γ M4 u v4 d2 d4 _ A4 (((e1.trans e2).trans e3).trans e4) ((r2.mono e3).mono e4) r4 q5) fun z H5 q => q.test
  | false =>
    rw [if_neg Bool.false_ne_true]
    exact ⟨false, rfl, Hb3, M3, (e1.trans e2).trans e3, A3, q4 rfl⟩

/-! ### 8. and, or, not, if-else -/
theorem dt_dw (h : DW X w e Γ M QT) : DT X w e Γ M QT := .mk fun F σ H Hb A => semT_of (semW_ok.pt) (h.run F σ H Hb A)
theorem dw_and1 (h : DT X w a Γ M QT) : DW X w (.BoolOp .And [a] pos) Γ M QT := .mk fun F σ H Hb A => semW_of (pw_and1 semT_ok) (h.run F σ H Hb A)
theorem dw_or1 (h : DT X w a Γ M QT) : DW X w (.BoolOp .Or [a] pos) Γ M QT := .mk fun F σ H Hb A => semW_of (pw_or1 semT_ok) (h.run F σ H Hb A)
theorem dw_and (h : DT X w a Γ M fun t M1 => (t = true → DW X w (.BoolOp .And (b :: rest') pos) Γ M1 QT) ∧ (t = false → QT false M1)) : DW X w (.BoolOp .And (a :: b :: rest') pos) Γ M QT := .mk fun F σ H Hb A => by
  refine semW_of (pw_and semT_ok semW_ok) (semT_mono (h.run F σ H Hb A) fun t H1 ⟨Hb1, M1, e1, A1, q1, q2⟩ => ?_)
  cases t with
  | true => rw [if_pos rfl]; exact semW_mono ((q1 rfl).run F σ H1 Hb1 A1) fun t H2 ⟨Hb2, M2, e2, A2, q⟩ => ⟨Hb2, M2, e1.trans e2, A2, q⟩
  | false => rw [if_neg Bool.false_ne_true]; exact ⟨Hb1, M1, e1, A1, q2 rfl⟩
theorem dw_or (h : DT X w a Γ M fun t M1 => (t = true → QT true M1) ∧ (t = false → DW X w (.BoolOp .Or (b :: rest') pos) Γ M1 QT)) : DW X w (.BoolOp .Or (a :: b :: rest') pos) Γ M QT := .mk fun F σ H Hb A => by
  refine semW_of (pw_or semT_ok semW_ok) (semT_mono (h.run F σ H Hb A) fun t H1 ⟨Hb1, M1, e1, A1, q1, q2⟩ => ?_)
  cases t with
  | true => rw [if_pos rfl]; exact ⟨Hb1, M1, e1, A1, q1 rfl⟩
  | false => rw [if_neg Bool.false_ne_true]; exact semW_mono ((q2 rfl).run F σ H1 Hb1 A1) fun t H2 ⟨Hb2, M2, e2, A2, q⟩ => ⟨Hb2, M2, e1.trans e2, A2, q⟩
theorem dt_not (h : DT X w a Γ M fun t M1 => QT (!t) M1) : DT X w (.UnaryOp .Not a pos) Γ M QT := .mk fun F σ H Hb A =>
  semT_of (pt_not semT_ok) (semT_mono (h.run F σ H Hb A) fun t H1 q => q)
theorem de_notB (h : DE X w a Γ M fun z M1 => ∃ t, z = .bl t ∧ Q (.bl (!t)) M1) : DE X w (.UnaryOp .Not a pos) Γ M Q := .mk fun F σ H Hb A => by
  refine semE_of (pe_not semE_ok) (semE_mono (h.run F σ H Hb A) fun v H1 ⟨Hb1, d1, M1, e1, A1, r1, t, ht, q⟩ => ?_)
  subst ht
  exact ⟨t, rep_bl r1, A1.val e1 .bl q⟩
theorem de_one {op : BoolOp} (h : DE X w a Γ M Q) : DE X w (.BoolOp op [a] pos) Γ M Q := .mk fun F σ H Hb A => semE_of (pe_one semE_ok) (h.run F σ H Hb A)
theorem de_and (h : DE X w a Γ M fun z M1 => ∃ t, z = .bl t ∧ (t = true → DE X w (.BoolOp .And (b :: rest') pos) Γ M1 Q) ∧ (t = false → Q (.bl false) M1)) : DE X w (.BoolOp .And (a :: b :: rest') pos) Γ M Q := .mk fun F σ H Hb A => by
  refine semE_of (pe_and semE_ok semE_ok) (semE_mono (h.run F σ H Hb A) fun v H1 ⟨Hb1, d1, M1, e1, A1, r1, t, ht, q1, q2⟩ => ?_)
  subst ht
  refine ⟨t, rep_bl r1, ?_⟩
  cases t with
  | true => rw [if_pos rfl]; exact semE_mono ((q1 rfl).run F σ H1 Hb1 A1) fun t H2 ⟨Hb2, d2, M2, e2, A2, q⟩ => ⟨Hb2, d2, M2, e1.trans e2, A2, q⟩
  | false => rw [if_neg Bool.false_ne_true]; exact A1.val e1 .bl (q2 rfl)
theorem de_or (h : DE X w a Γ M fun z M1 => ∃ t, z = .bl t ∧ (t = true → Q (.bl true) M1) ∧ (t = false → DE X w (.BoolOp .Or (b :: rest') pos) Γ M1 Q)) : DE X w (.BoolOp .Or (a :: b :: rest') pos) Γ M Q := .mk fun F σ H Hb A => by
  refine semE_of (pe_or semE_ok semE_ok) (semE_mono (h.run F σ H Hb A) fun v H1 ⟨Hb1, d1, M1, e1, A1, r1, t, ht, q1, q2⟩ => ?_)
  subst ht
  refine ⟨t, rep_bl r1, ?_⟩
  cases t with
  | true => rw [if_pos rfl]; exact A1.val e1 .bl (q1 rfl)
  | false => rw [if_neg Bool.false_ne_true]; exact semE_mono ((q2 rfl).run F σ H1 Hb1 A1) fun t H2 ⟨Hb2, d2, M2, e2, A2, q⟩ => ⟨Hb2, d2, M2, e1.trans e2, A2, q⟩
theorem de_ife (h : DT X w c Γ M fun t M1 => (t = true → DE X w a Γ M1 Q) ∧ (t = false → DE X w b Γ M1 Q)) : DE X w (.IfExp c a b pos) Γ M Q := .mk fun F σ H Hb A => by
  refine semE_of (pe_ifExp semT_ok semE_ok semE_ok) (semT_mono (h.run F σ H Hb A) fun t H1 ⟨Hb1, M1, e1, A1, q1, q2⟩ => ?_)
  cases t with
  | true => rw [if_pos rfl]; exact semE_mono ((q1 rfl).run F σ H1 Hb1 A1) fun t H2 ⟨Hb2, d2, M2, e2, A2, q⟩ => ⟨Hb2, d2, M2, e1.trans e2, A2, q⟩
  | false => rw [if_neg Bool.false_ne_true]; exact semE_mono ((q2 rfl).run F σ H1 Hb1 A1) fun t H2 ⟨Hb2, d2, M2, e2, A2, q⟩ => ⟨Hb2, d2, M2, e1.trans e2, A2, q⟩
/-- the same without a fork: a test, an expression, of known value that leaves the memory as it is -/
theorem dt_is {t : Bool} (h : DT X w e Γ M fun t' M1 => t' = t ∧ M1 = M) (q : QT t M) : DT X w e Γ M QT := dt_imp h fun t' M1 ⟨h1, h2⟩ => by subst h1 h2; exact q
theorem dw_is {t : Bool} (h : DW X w e Γ M fun t' M1 => t' = t ∧ M1 = M) (q : QT t M) : DW X w e Γ M QT := dw_imp h fun t' M1 ⟨h1, h2⟩ => by subst h1 h2; exact q
theorem de_is {d : D} (h : DE X w e Γ M fun d' M1 => d' = d ∧ M1 = M) (q : Q d M) : DE X w e Γ M Q := de_imp h fun t' M1 ⟨h1, h2⟩ => by subst h1 h2; exact q

/-! ### 9. Arguments, displays -/
theorem da_nil {Q : List D → Mm → Prop} (q : Q [] M) : DA X w [] Γ M Q := .mk fun F σ H Hb A => semA_of pa_nil ⟨Hb, [], M, Ex.refl _, A, .nil, q⟩
theorem da_cons {Q : List D → Mm → Prop} (hs : starEach (e :: es) X.env = (false, eval e X.env) :: starEach es X.env) (h : DE X w e Γ M fun d M1 => DA X w es Γ M1 fun ds M2 => Q (d :: ds) M2) : DA X w (e :: es) Γ M Q := .mk fun F σ H Hb A => by
  refine semA_of (pa_cons semE_ok semA_ok hs) (semE_mono (h.run F σ H Hb A) fun v H1 ⟨Hb1, d1, M1, e1, A1, r1, q1⟩ => ?_)
  exact semA_mono (q1.run F σ H1 Hb1 A1) fun vs H2 ⟨Hb2, ds, M2, e2, A2, r2, q2⟩ => ⟨Hb2, d1 :: ds, M2, e1.trans e2, A2, .cons (r1.mono e2) r2, q2⟩
/-- the items of a sequence -/
def D.seq : D → Option (List D)
  | .lst ds => some ds
  | .tup ds => some ds
  | _ => none
theorem rep_seq {K : PySem.W.Frag} {mg : Str → Option Value} {Hb H : Hp} {v : V} {d : D} {ds : List D} (r : Rep K mg Hb v d) (e : Ex Hb H) (h : d.seq = some ds) : ∃ p vs, v = .ref p ∧ (SqT K H p vs ∨ SqL K H p vs) ∧ Reps K mg Hb vs ds := by
  cases r with
  | tup h1 h2 => cases h; exact ⟨_, _, rfl, .inl (ex_t e h1), h2⟩
  | lst h1 h2 => cases h; exact ⟨_, _, rfl, .inr (SqL.of (e _ _ h1)), h2⟩
  | _ => cases h
theorem da_star {Q : List D → Mm → Prop} {p : Pos} (hs : starEach (.Starred e p :: es) X.env = (true, eval e X.env) :: starEach es X.env)
    (h : DE X w e Γ M fun d M1 => ∃ xs, d.seq = some xs ∧ DA X w es Γ M1 fun ds M2 => Q (xs ++ ds) M2) : DA X w (.Starred e p :: es) Γ M Q := .mk fun F σ H Hb A => by
  refine semA_of (StX.pa_star semE_ok semA_ok hs) (semE_mono (h.run F σ H Hb A) fun v H1 ⟨Hb1, d1, M1, e1, A1, r1, xs, hx, q1⟩ => ?_)
  obtain ⟨p, vs, rfl, hq, rs⟩ := rep_seq r1 A1.hs.ex hx
  refine ⟨p, vs, rfl, hq, ?_⟩
  exact semA_mono (q1.run F σ H1 Hb1 A1) fun vs H2 ⟨Hb2, ds, M2, e2, A2, r2, q2⟩ => ⟨Hb2, xs ++ ds, M2, e1.trans e2, A2, (rs.mono e2).append r2, q2⟩
theorem de_tup {x1} (h : DA X w es Γ M fun ds M1 => ds.length ≤ sizeLine ∧ Q (.tup ds) M1) : DE X w (.Tuple es x1 pos) Γ M Q := .mk fun F σ H Hb A =>
  semE_of (pe_tup semA_ok) (semA_mono (h.run F σ H Hb A) fun vs H1 ⟨Hb1, ds, M1, e1, A1, r1, l, q1⟩ => ⟨by rw [r1.length]; exact l, fun p hp => A1.tup e1 r1 hp q1⟩)
theorem de_lst (h : DA X w es Γ M fun ds M1 => ds.length ≤ sizeLine ∧ Q (.lst ds) M1) : DE X w (.List es pos) Γ M Q := .mk fun F σ H Hb A =>
  semE_of (pe_lst semA_ok) (semA_mono (h.run F σ H Hb A) fun vs H1 ⟨Hb1, ds, M1, e1, A1, r1, l, q1⟩ => ⟨by rw [r1.length]; exact l, fun p hp => A1.lst e1 r1 hp q1⟩)
/-- a list that will change -/
theorem de_lstM (h : DA X w es Γ M fun ds M1 => ds.length ≤ sizeLine ∧ ∀ p, M1 p = none → Q (.ptr p) (M1.put p (.l ds))) : DE X w (.List es pos) Γ M Q := .mk fun F σ H Hb A =>
  semE_of (pe_lst semA_ok) (semA_mono (h.run F σ H Hb A) fun vs H1 ⟨Hb1, ds, M1, e1, A1, r1, l, q1⟩ => ⟨by rw [r1.length]; exact l, fun p hp =>
    ⟨Hb1, _, _, e1, A1.cell (c := .l ds) hp ⟨vs, upd_same, r1⟩, .ptr, q1 p (A1.hs.free hp)⟩⟩)

/-! ### 10. Subscripts and slices -/
theorem de_ix {pp : PP2} (hp : XD X pp) (hs : PlainIx b) (h : DE X w a Γ M fun x M1 => DE X w b Γ M1 fun y M2 => pp x y M2 Q) : DE X w (.Subscript a b pos) Γ M Q := .mk fun F σ H Hb A => by
  refine semE_of (pe_ix semI_ok semE_ok semE_ok hs) ?_
  refine semE_mono (h.run F σ H Hb A) fun v H1 ⟨Hb1, d1, M1, e1, A1, r1, q1⟩ => ?_
  refine semE_mono (q1.run F σ H1 Hb1 A1) fun u H2 ⟨Hb2, d2, M2, e2, A2, r2, q2⟩ => ?_
  exact hp w F Hb Hb2 H2 σ Γ M2 v u d1 d2 Q A2 (e1.trans e2) (r1.mono e2) r2 q2
/-- the item at an index -/
def pIx : PP2
  | .lst ds, .int i, M, Q => ∃ d, atI ds i = some d ∧ Q d M
  | .tup ds, .int i, M, Q => ∃ d, atI ds i = some d ∧ Q d M
  | .str s, .int i, M, Q => s.length ≤ sizeLine ∧ ∃ c, atI s.cps.toList i = some c ∧ Q (.str ⟨#[c]⟩) M
  | .ptr p, .int i, M, Q => ∃ ds d, M p = some (.l ds) ∧ atI ds i = some d ∧ Q d M
  | _, _, _, _ => False
theorem Reps.atI {K : PySem.W.Frag} {mg : Str → Option Value} {Hb : Hp} {vs : List V} {ds : List D} (r : Reps K mg Hb vs ds) {i : Int} {d : D} (h : L2.atI ds i = some d) : ∃ v, L2.atI vs i = some v ∧ Rep K mg Hb v d := by
  unfold L2.atI at h ⊢
  rw [r.length]
  cases e : ixN ds.length i with
  | none => rw [e] at h; cases h
  | some j => rw [e] at h; exact r.get h
theorem xd_ix : XD X pIx := by
  intro w F H0 Hb H σ Γ M v u x y Q A e rx ry q
  cases ry with
  | int =>
    cases rx with
    | lst h r => obtain ⟨d, h1, h2⟩ := q; obtain ⟨z, h3, h4⟩ := r.atI h1; exact semI_of ix_list ⟨_, _, _, z, rfl, rfl, SqL.of (A.hs.ex _ _ h), h3, A.val e h4 h2⟩
    | tup h r => obtain ⟨d, h1, h2⟩ := q; obtain ⟨z, h3, h4⟩ := r.atI h1; exact semI_of ix_tup ⟨_, _, _, z, rfl, rfl, ex_t A.hs.ex h, h3, A.val e h4 h2⟩
    | str => obtain ⟨l, c, h1, h2⟩ := q; exact semI_of ix_str ⟨_, _, c, rfl, rfl, l, h1, A.val e .str h2⟩
    | ptr =>
      obtain ⟨ds, d, h0, h1, h2⟩ := q
      obtain ⟨_, vs, h, r⟩ := A.hs.ce _ _ h0
      obtain ⟨z, h3, h4⟩ := r.atI h1
      exact semI_of ix_list ⟨_, _, _, z, rfl, rfl, SqL.of h, h3, A.val e h4 h2⟩
    | _ => exact q.elim
  | _ => cases x <;> exact q.elim
end
end L3
namespace L3
open PySem PySem.Spec PyProof.Rows L2

/-! ### 11. == of data -/
mutual
/-- what is compared by == part by part -/
def D.py : D → PyData
  | .bl b => .bool b
  | .int i => .int i
  | .str s => .str s
  | .tup ds => .tuple (D.pys ds)
  | .lst ds => .list (D.pys ds)
  | _ => .none
def D.pys : List D → List PyData
  | [] => []
  | d :: ds => D.py d :: D.pys ds
end
mutual
/-- data: None, bools, ints, texts, lists and tuples of such, at most n deep -/
def D.ok : Nat → D → Bool
  | _, .non => true
  | _, .bl _ => true
  | _, .int _ => true
  | _, .str s => PyData.canLay0 (.str s)
  | n + 1, .tup ds => D.oks n ds
  | n + 1, .lst ds => D.oks n ds
  | _, _ => false
def D.oks : Nat → List D → Bool
  | _, [] => true
  | n, d :: ds => D.ok n d && D.oks n ds
end
section
variable {K : PySem.W.Frag} {mg : Str → Option Value} {Hb H : Hp}
mutual
theorem rep_py (e : Ex Hb H) : ∀ {n : Nat} {d : D} {v : V}, Rep K mg Hb v d → D.ok n d = true → Dp K H v d.py
  | _, .non, _, .non, _ => .non
  | _, .bl _, _, .bl, _ => .bl _
  | _, .int _, _, .int, _ => .int _
  | _, .str _, _, .str, _ => .str _
  | n + 1, .tup ds, _, .tup h r, q => .tup (ex_t e h) (reps_py e r (n := n) (by simpa [D.ok] using q))
  | n + 1, .lst ds, _, .lst h r, q => .lst (SqL.of (e _ _ h)) (reps_py e r (n := n) (by simpa [D.ok] using q))
theorem reps_py (e : Ex Hb H) : ∀ {n : Nat} {ds : List D} {vs : List V}, Reps K mg Hb vs ds → D.oks n ds = true → DpAll K H vs (D.pys ds)
  | _, [], _, .nil, _ => .nil
  | n, d :: ds, _, .cons r t, q => by
    simp only [D.oks, Bool.and_eq_true] at q
    exact .cons (rep_py e r q.1) (reps_py e t q.2)
end
end
mutual
theorem D.lay : ∀ {n : Nat} {d : D}, D.ok n d = true → d.py.canLay0 = true ∧ d.py.depth ≤ n
  | n, .non, _ => ⟨rfl, by simp [D.py, PyData.depth]⟩
  | n, .bl _, _ => ⟨rfl, by simp [D.py, PyData.depth]⟩
  | n, .int _, _ => ⟨rfl, by simp [D.py, PyData.depth]⟩
  | n, .str _, q => ⟨by simpa [D.py, D.ok] using q, by simp [D.py, PyData.depth]⟩
  | n + 1, .tup ds, q => by
    have h := D.lays (n := n) (ds := ds) (by simpa [D.ok] using q)
    exact ⟨by simpa [D.py, PyData.canLay0] using h.1, by simp only [D.py, PyData.depth]; omega⟩
  | n + 1, .lst ds, q => by
    have h := D.lays (n := n) (ds := ds) (by simpa [D.ok] using q)
    exact ⟨by simpa [D.py, PyData.canLay0] using h.1, by simp only [D.py, PyData.depth]; omega⟩
  | 0, .tup _, q => by simp [D.ok] at q
  | 0, .lst _, q => by simp [D.ok] at q
  | n, .ty _, q => by simp [D.ok] at q
  | n, .dK _, q => by simp [D.ok] at q
  | n, .dT _, q => by simp [D.ok] at q
  | n, .obj _ _, q => by simp [D.ok] at q
  | n, .ptr _, q => by simp [D.ok] at q
  | n, .scr _, q => by simp [D.ok] at q
theorem D.lays : ∀ {n : Nat} {ds : List D}, D.oks n ds = true → PyData.canLayAll0 (D.pys ds) = true ∧ PyData.depthAll (D.pys ds) ≤ n
  | n, [], _ => ⟨rfl, by simp [D.pys, PyData.depthAll]⟩
  | n, d :: ds, q => by
    simp only [D.oks, Bool.and_eq_true] at q
    have h1 := D.lay q.1
    have h2 := D.lays q.2
    exact ⟨by simp only [D.pys, PyData.canLayAll0, h1.1, h2.1, Bool.and_self], by simp only [D.pys, PyData.depthAll]; omega⟩
end
theorem D.shaped {d : D} (h : D.ok 60 d = true) : SeqAt.shaped d.py = true := by
  have q := D.lay h
  show (d.py.canLay0 && decide (d.py.depth ≤ 64)) = true
  rw [Bool.and_eq_true]
  exact ⟨q.1, decide_eq_true (by omega)⟩
def D.eq (x y : D) : Bool := PyData.eqv x.py y.py

section
variable {X : Cx}
/-- from two operations one -/
theorem OD.of {f} {r : R2} {pp : PP2} (ho : OpR X f r) (hp : ∀ (w : Wi) (F H0 Hb H : Hp) (σ : St) (Γ : Ga) (M : Mm) (v u : V) (x y : D) (Q : D → Mm → Prop), At X w F Hb H σ Γ M → Ex H0 Hb → Rep X.K X.mg Hb v x → Rep X.K X.mg Hb u y → pp x y M Q → r v u H (PostE X w F H0 σ Γ Q)) : OD X f pp :=
  fun w F H0 Hb H σ Γ M v u x y Q A e rx ry q => semO_of ho (hp w F H0 Hb H σ Γ M v u x y Q A e rx ry q)
def pEq : PP2 := fun x y M Q => D.ok 60 x = true ∧ D.ok 60 y = true ∧ Q (.bl (D.eq x y)) M
def pNe : PP2 := fun x y M Q => D.ok 60 x = true ∧ D.ok 60 y = true ∧ Q (.bl (!D.eq x y)) M
theorem od_eq (hu : X.A.units + 64 < cLine) : OD X (compareOp .Eq) pEq := .of (op_eqD hu) fun w F H0 Hb H σ Γ M v u x y Q A e rx ry ⟨h1, h2, q⟩ =>
  ⟨x.py, y.py, rep_py A.hs.ex rx h1, rep_py A.hs.ex ry h2, D.shaped h1, D.shaped h2, A.val e .bl q⟩
theorem od_ne (hu : X.A.units + 64 < cLine) : OD X (compareOp .NotEq) pNe := .of (op_neD hu) fun w F H0 Hb H σ Γ M v u x y Q A e rx ry ⟨h1, h2, q⟩ =>
  ⟨x.py, y.py, rep_py A.hs.ex rx h1, rep_py A.hs.ex ry h2, D.shaped h1, D.shaped h2, A.val e .bl q⟩

/-! ### 12. Numbers, texts, lists -/
def pI2 (C : Int → Int → Prop) (g : Int → Int → D) : PP2
  | .int i, .int j, M, Q => C i j ∧ Q (g i j) M
  | _, _, _, _ => False
theorem od_I2 {f} {C : Int → Int → Prop} {gv : Int → Int → V} {g : Int → Int → D} (ho : OpR X f (rI C gv)) (hg : ∀ i j Hb, Rep X.K X.mg Hb (gv i j) (g i j)) : OD X f (pI2 C g) := .of ho fun w F H0 Hb H σ Γ M v u x y Q A e rx ry q => by
  cases rx <;> cases ry <;> first | exact q.elim | skip
  exact ⟨_, _, rfl, rfl, q.1, A.val e (hg _ _ _) q.2⟩
theorem rI0_of {f} {gv : Int → Int → V} (ho : OpR X f (rI0 gv)) : OpR X f (rI (fun _ _ => True) gv) := fun pins s σ H x y v u Q I rx ry ⟨i, j, h1, h2, _, q⟩ => ho pins s σ H x y v u Q I rx ry ⟨i, j, h1, h2, q⟩
abbrev T2 : Int → Int → Prop := fun _ _ => True
theorem od_sub : OD X (binaryOp .Sub) (pI2 T2 fun i j => .int (i - j)) := od_I2 (rI0_of op_sub) fun _ _ _ => .int
theorem od_fdiv : OD X (binaryOp .FloorDiv) (pI2 CDiv fun i j => .int (i / j)) := od_I2 op_fdiv fun _ _ _ => .int
theorem od_mod : OD X (binaryOp .Mod) (pI2 (fun _ j => 0 < j) fun i j => .int (i % j)) := od_I2 op_mod fun _ _ _ => .int
theorem od_pow : OD X (binaryOp .Pow) (pI2 CPow fun i j => .int (i ^ j.toNat)) := od_I2 op_pow fun _ _ _ => .int
def pLt (f : Int → Int → Bool) : PP2 := pI2 T2 fun i j => .bl (f i j)
theorem od_lt : OD X (compareOp .Lt) (pI2 T2 fun i j => .bl (decide (i < j))) := od_I2 (rI0_of op_lt) fun _ _ _ => .bl
theorem od_le : OD X (compareOp .LtE) (pI2 T2 fun i j => .bl (decide (i ≤ j))) := od_I2 (rI0_of op_le) fun _ _ _ => .bl
theorem od_gt : OD X (compareOp .Gt) (pI2 T2 fun i j => .bl (decide (j < i))) := od_I2 (rI0_of op_gt) fun _ _ _ => .bl
theorem od_ge : OD X (compareOp .GtE) (pI2 T2 fun i j => .bl (decide (j ≤ i))) := od_I2 (rI0_of op_ge) fun _ _ _ => .bl
theorem ud_neg : UD X (unaryOp .USub) (fun x M Q => match x with | .int i => Q (.int (-i)) M | _ => False) := fun w F H0 Hb H σ Γ M v x Q A e rx q => by
  cases rx <;> first | exact q.elim | skip
  exact semU_of un_neg ⟨_, rfl, A.val e .int q⟩
def pAdd : PP2
  | .int i, .int j, M, Q => Q (.int (i + j)) M
  | .str s, .str t, M, Q => s.length + t.length ≤ sizeLine ∧ Q (.str (s ++ t)) M
  | .lst a, .lst b, M, Q => a.length + b.length ≤ sizeLine ∧ Q (.lst (a ++ b)) M
  | .tup a, .tup b, M, Q => a.length + b.length ≤ sizeLine ∧ Q (.tup (a ++ b)) M
  | _, _, _, _ => False
theorem od_add : OD X (binaryOp .Add) pAdd := fun w F H0 Hb H σ Γ M v u x y Q A e rx ry q => by
  cases rx <;> cases ry <;> first | exact q.elim | skip
  · exact semO_of op_add ⟨_, _, rfl, rfl, A.val e .int q⟩
  · exact semO_of op_add_str ⟨_, _, rfl, rfl, q.1, A.val e .str q.2⟩
  · rename_i ds1 h1 r1 _ _ ds2 h2 r2
    refine semO_of op_catA ⟨_, _, _, _, rfl, rfl, ex_t A.hs.ex h1, ex_t A.hs.ex h2, by rw [r1.length, r2.length]; exact q.1, fun z => ?_, fun _ z => ?_, fun _ _ p hp => A.tup e (r1.append r2) hp q.2⟩
    · subst z
      cases r1
      exact A.val e (.tup h2 r2) q.2
    · subst z
      cases r2
      have q2 := q.2
      rw [List.append_nil] at q2
      exact A.val e (.tup h1 r1) q2
  · rename_i h1 r1 _ _ _ h2 r2
    exact semO_of op_cat ⟨_, _, _, _, rfl, rfl, A.hs.ex _ _ h1, A.hs.ex _ _ h2, by rw [r1.length, r2.length]; exact q.1, fun p hp => A.lst e (r1.append r2) hp q.2⟩
/-- a text taken once, or not at all -/
theorem op_mul_str01 : OpR X (binaryOp .Mult) (fun x y H Q => ∃ (z : Str) (b : Bool), x = .str z ∧ y = .int (if b then 1 else 0) ∧ Q (.str (if b then z else Str.empty)) H) := by
  intro pins s σ H x y v u Q I rx ry h
  obtain ⟨z, b, rfl, rfl, q⟩ := h
  obtain ⟨t, rfl⟩ := rx
  obtain ⟨t', rfl⟩ := ry
  cases b with
  | false => exact PySem.P.mul_str_none (by decide) (by decide) ⟨.str _, H, I.tok _, ⟨_, rfl⟩, q⟩
  | true =>
    refine PySem.P.mul_str (by decide) (fun _ h => ?_) (fun _ h => ?_) ?_
    · exact absurd h (by simp)
    · exact absurd h (by simp)
    · rw [if_neg (by decide), if_pos (by simp)]
      exact ⟨.str _, H, I, ⟨_, rfl⟩, q⟩
def pMul : PP2
  | .int i, .int j, M, Q => CMul i j ∧ Q (.int (i * j)) M
  | .str z, .int n, M, Q => ∃ b : Bool, n = (if b then 1 else 0) ∧ Q (.str (if b then z else Str.empty)) M
  | .lst ds, .int n, M, Q => -(2 ^ 63) ≤ n ∧ n < 2 ^ 63 ∧ ds.length * n.toNat ≤ sizeLine ∧ Q (.lst (List.replicate n.toNat ds).flatten) M
  | _, _, _, _ => False
theorem Reps.rep {K : PySem.W.Frag} {mg : Str → Option Value} {Hb : Hp} {vs : List V} {ds : List D} (r : Reps K mg Hb vs ds) : ∀ n : Nat, Reps K mg Hb (List.replicate n vs).flatten (List.replicate n ds).flatten
  | 0 => .nil
  | n + 1 => by rw [List.replicate_succ, List.replicate_succ, List.flatten_cons, List.flatten_cons]; exact r.append (Reps.rep r n)
theorem od_mul : OD X (binaryOp .Mult) pMul := fun w F H0 Hb H σ Γ M v u x y Q A e rx ry q => by
  cases rx <;> cases ry <;> first | exact q.elim | skip
  · exact semO_of op_mul ⟨_, _, rfl, rfl, q.1, A.val e .int q.2⟩
  · obtain ⟨b, h, q⟩ := q
    exact semO_of op_mul_str01 ⟨_, b, rfl, by rw [h], A.val e .str q⟩
  · rename_i h1 r1 _
    obtain ⟨h2, h3, h4, q⟩ := q
    exact semO_of op_rep ⟨_, _, _, rfl, rfl, A.hs.ex _ _ h1, h2, h3, by rw [r1.length]; exact h4, fun p hp => A.lst e (r1.rep _) hp q⟩
def pIs : PP2 := fun x y M Q => y = .non ∧ Q (.bl (match x with | .non => true | _ => false)) M
def pIsNot : PP2 := fun x y M Q => y = .non ∧ Q (.bl (match x with | .non => false | _ => true)) M
theorem od_is : OD X (compareOp .Is) pIs := .of op_isN fun w F H0 Hb H σ Γ M v u x y Q A e rx ry ⟨h, q⟩ => by
  subst h
  cases ry
  refine ⟨rfl, A.val e (d := .bl _) .bl ?_⟩
  cases rx <;> exact q
theorem od_isnot : OD X (compareOp .IsNot) pIsNot := .of op_notN fun w F H0 Hb H σ Γ M v u x y Q A e rx ry ⟨h, q⟩ => by
  subst h
  cases ry
  refine ⟨rfl, A.val e (d := .bl _) .bl ?_⟩
  cases rx <;> exact q
/-! in -/
theorem op_inTD (hu : X.A.units + 65 < cLine) : OpR X (compareOp .In) (fun x y H Q => ∃ d ds, Dp X.K H x d ∧ Dp X.K H y (.tuple ds) ∧ SeqAt.shaped d = true ∧ SeqAt.shaped (.tuple ds) = true ∧ Q (.bl (ds.any fun z => PyData.eqv z d)) H) := by
  intro pins s σ H x y v u Q I rx ry h
  obtain ⟨d, ds, hd, he, sd, se, q⟩ := h
  obtain ⟨as, r1⟩ := Dp.reads I d x v hd rx
  obtain ⟨bs, r2⟩ := Dp.reads I (.tuple ds) y u he ry
  exact SeqAt.in_tuple_reads r2 r1 (SeqAt.canLay_of_shaped se) (SeqAt.canLay_of_shaped sd) (room_in_shaped sd hu) ⟨.bl _, H, I, rfl, q⟩
theorem op_notInTD (hu : X.A.units + 65 < cLine) : OpR X (compareOp .NotIn) (fun x y H Q => ∃ d ds, Dp X.K H x d ∧ Dp X.K H y (.tuple ds) ∧ SeqAt.shaped d = true ∧ SeqAt.shaped (.tuple ds) = true ∧ Q (.bl (!ds.any fun z => PyData.eqv z d)) H) := by
  intro pins s σ H x y v u Q I rx ry h
  obtain ⟨d, ds, hd, he, sd, se, q⟩ := h
  obtain ⟨as, r1⟩ := Dp.reads I d x v hd rx
  obtain ⟨bs, r2⟩ := Dp.reads I (.tuple ds) y u he ry
  exact SeqAt.notIn_tuple_reads r2 r1 (SeqAt.canLay_of_shaped se) (SeqAt.canLay_of_shaped sd) (room_in_shaped sd hu) ⟨.bl _, H, I, rfl, q⟩
def D.mem (x : D) (ds : List D) : Bool := ds.any fun z => D.eq z x
theorem any_pys (x : PyData) : ∀ ds : List D, (D.pys ds).any (fun z => PyData.eqv z x) = ds.any fun z => PyData.eqv z.py x
  | [] => rfl
  | d :: ds => by simp only [D.pys, List.any_cons, any_pys x ds]
/-- x in y: a list or a tuple of data; a text in a text -/
def pIn (neg : Bool) : PP2
  | x, .lst ds, M, Q => D.ok 60 x = true ∧ D.oks 59 ds = true ∧ Q (.bl (if neg then !D.mem x ds else D.mem x ds)) M
  | x, .tup ds, M, Q => D.ok 60 x = true ∧ D.oks 59 ds = true ∧ Q (.bl (if neg then !D.mem x ds else D.mem x ds)) M
  | .str c, .str s, M, Q => ∃ k, c = ⟨#[k]⟩ ∧ Q (.bl (if neg then !decide (k ∈ s.cps.toList) else decide (k ∈ s.cps.toList))) M
  | .int i, .dK kvs, M, Q => False
  | x, .ptr p, M, Q => ∃ ds, M p = some (.l ds) ∧ D.ok 60 x = true ∧ D.oks 59 ds = true ∧ Q (.bl (if neg then !D.mem x ds else D.mem x ds)) M
  | _, _, _, _ => False
theorem oks_lst {ds : List D} (h : D.oks 59 ds = true) : D.ok 60 (.lst ds) = true := h
theorem oks_tup {ds : List D} (h : D.oks 59 ds = true) : D.ok 60 (.tup ds) = true := h
theorem od_in (hu : X.A.units + 65 < cLine) : OD X (compareOp .In) (pIn false) := fun w F H0 Hb H σ Γ M v u x y Q A e rx ry q => by
  have key : ∀ {p : Addr} {vs : List V} {ds : List D}, SqL X.K H p vs → Reps X.K X.mg Hb vs ds → D.ok 60 x = true → D.oks 59 ds = true → Q (.bl (D.mem x ds)) M → semO X (compareOp .In) v (.ref p) H (PostE X w F H0 σ Γ Q) := fun {p vs ds} h1 h2 h3 h4 h5 =>
    semO_of (op_inD hu) ⟨x.py, D.pys ds, rep_py A.hs.ex rx h3, .lst h1 (reps_py A.hs.ex h2 h4), D.shaped h3, D.shaped (oks_lst h4), by rw [any_pys]; exact A.val e .bl h5⟩
  cases ry with
  | lst h r =>
    rename_i p vs ds
    have q' : D.ok 60 x = true ∧ D.oks 59 ds = true ∧ Q (.bl (D.mem x ds)) M := by cases x <;> exact q
    exact key (SqL.of (A.hs.ex _ _ h)) r q'.1 q'.2.1 q'.2.2
  | tup h r =>
    rename_i p vs ds
    have q' : D.ok 60 x = true ∧ D.oks 59 ds = true ∧ Q (.bl (D.mem x ds)) M := by cases x <;> exact q
    exact semO_of (op_inTD hu) ⟨x.py, D.pys ds, rep_py A.hs.ex rx q'.1, .tup (ex_t A.hs.ex h) (reps_py A.hs.ex r q'.2.1), D.shaped q'.1, D.shaped (oks_tup q'.2.1), by rw [any_pys]; exact A.val e .bl q'.2.2⟩
  | ptr =>
    rename_i p
    have q' : ∃ ds, M p = some (.l ds) ∧ D.ok 60 x = true ∧ D.oks 59 ds = true ∧ Q (.bl (D.mem x ds)) M := by cases x <;> exact q
    obtain ⟨ds, h0, h1, h2, h3⟩ := q'
    obtain ⟨_, vs, h, r⟩ := A.hs.ce _ _ h0
    exact key (SqL.of h) r h1 h2 h3
  | str =>
    cases rx <;> first | exact q.elim | skip
    obtain ⟨k, rfl, q⟩ := q
    exact semO_of op_in_sign ⟨k, _, rfl, rfl, A.val e .bl q⟩
  | _ => cases x <;> exact q.elim
theorem od_notin (hu : X.A.units + 65 < cLine) : OD X (compareOp .NotIn) (pIn true) := fun w F H0 Hb H σ Γ M v u x y Q A e rx ry q => by
  have key : ∀ {p : Addr} {vs : List V} {ds : List D}, SqL X.K H p vs → Reps X.K X.mg Hb vs ds → D.ok 60 x = true → D.oks 59 ds = true → Q (.bl (!D.mem x ds)) M → semO X (compareOp .NotIn) v (.ref p) H (PostE X w F H0 σ Γ Q) := fun {p vs ds} h1 h2 h3 h4 h5 =>
    semO_of (op_notInD hu) ⟨x.py, D.pys ds, rep_py A.hs.ex rx h3, .lst h1 (reps_py A.hs.ex h2 h4), D.shaped h3, D.shaped (oks_lst h4), by rw [any_pys]; exact A.val e .bl h5⟩
  cases ry with
  | lst h r =>
    rename_i p vs ds
    have q' : D.ok 60 x = true ∧ D.oks 59 ds = true ∧ Q (.bl (!D.mem x ds)) M := by cases x <;> exact q
    exact key (SqL.of (A.hs.ex _ _ h)) r q'.1 q'.2.1 q'.2.2
  | tup h r =>
    rename_i p vs ds
    have q' : D.ok 60 x = true ∧ D.oks 59 ds = true ∧ Q (.bl (!D.mem x ds)) M := by cases x <;> exact q
    exact semO_of (op_notInTD hu) ⟨x.py, D.pys ds, rep_py A.hs.ex rx q'.1, .tup (ex_t A.hs.ex h) (reps_py A.hs.ex r q'.2.1), D.shaped q'.1, D.shaped (oks_tup q'.2.1), by rw [any_pys]; exact A.val e .bl q'.2.2⟩
  | ptr =>
    rename_i p
    have q' : ∃ ds, M p = some (.l ds) ∧ D.ok 60 x = true ∧ D.oks 59 ds = true ∧ Q (.bl (!D.mem x ds)) M := by cases x <;> exact q
    obtain ⟨ds, h0, h1, h2, h3⟩ := q'
    obtain ⟨_, vs, h, r⟩ := A.hs.ce _ _ h0
    exact key (SqL.of h) r h1 h2 h3
  | str =>
    cases rx <;> first | exact q.elim | skip
    obtain ⟨k, rfl, q⟩ := q
    exact semO_of op_notIn_sign ⟨k, _, rfl, rfl, A.val e .bl q⟩
  | _ => cases x <;> exact q.elim

/-! ### 13. Built-ins -/
theorem de_callB {w : Wi} {Γ : Ga} {M : Mm} {Q : D → Mm → Prop} {x : Str} {id : String} {e : Expr} {es : List Expr} {p pos : Pos} {pp : PPL} {k : Nat} {n : Nm} (S : Sc X k n) (hx : x ∈ n.glb) (hm : X.mg x = none) (hv : bootBuiltins x = some (.builtin id)) (hp : CD X (.builtin id) pp)
    (he : starEach (e :: es) X.env = (false, eval e X.env) :: starEach es X.env) (hpl : (backTo pos (starEach es X.env)).any (·.1) = false) (h : DA X w (e :: es) Γ M fun ds M1 => pp ds M1 Q) : DE X w (.Call (.Name x p) (e :: es) [] pos) Γ M Q := .mk fun F σ H Hb A =>
  semE_of (pe_callB semC_ok (S.gl x hx).1 hm hv semA_ok (okN_n (S.gl x hx).2) (okN_d (S.gl x hx).2) he hpl) (semA_mono (h.run F σ H Hb A) fun vs H1 ⟨Hb1, ds, M1, e1, A1, r1, q1⟩ => hp w F Hb Hb1 H1 σ Γ M1 vs ds Q A1 e1 r1 q1)
theorem de_callT {w : Wi} {Γ : Ga} {M : Mm} {Q : D → Mm → Prop} {x : Str} {id : String} {e : Expr} {es : List Expr} {p pos : Pos} {pp : PPL} {k : Nat} {n : Nm} (S : Sc X k n) (hx : x ∈ n.glb) (hm : X.mg x = none) (hv : bootBuiltins x = some (.type id)) (hp : CD X (.type id) pp)
    (he : starEach (e :: es) X.env = (false, eval e X.env) :: starEach es X.env) (hpl : (backTo pos (starEach es X.env)).any (·.1) = false) (h : DA X w (e :: es) Γ M fun ds M1 => pp ds M1 Q) : DE X w (.Call (.Name x p) (e :: es) [] pos) Γ M Q := .mk fun F σ H Hb A =>
  semE_of (pe_callTy semC_ok (S.gl x hx).1 hm hv semA_ok (okN_n (S.gl x hx).2) (okN_d (S.gl x hx).2) he hpl) (semA_mono (h.run F σ H Hb A) fun vs H1 ⟨Hb1, ds, M1, e1, A1, r1, q1⟩ => hp w F Hb Hb1 H1 σ Γ M1 vs ds Q A1 e1 r1 q1)
/-- an argument alone -/
def one (pp : PP1) : PPL := fun ds M Q => match ds with
  | [d] => pp d M Q
  | _ => False
theorem CD.one {f} {pp : PP1} (h : ∀ (w : Wi) (F H0 Hb H : Hp) (σ : St) (Γ : Ga) (M : Mm) (v : V) (x : D) (Q : D → Mm → Prop), At X w F Hb H σ Γ M → Ex H0 Hb → Rep X.K X.mg Hb v x → pp x M Q → semC X f [v] H (PostE X w F H0 σ Γ Q)) : CD X f (one pp) := fun w F H0 Hb H σ Γ M vs xs Q A e rs q => by
  cases rs with
  | nil => exact q.elim
  | cons r t =>
    cases t with
    | nil => exact h w F H0 Hb H σ Γ M _ _ Q A e r q
    | cons _ _ => exact q.elim
def pLen : PP1
  | .lst ds, M, Q => Q (.int ds.length) M
  | .tup ds, M, Q => Q (.int ds.length) M
  | .str s, M, Q => s.length ≤ sizeLine ∧ Q (.int s.length) M
  | .ptr p, M, Q => ∃ ds, M p = some (.l ds) ∧ Q (.int ds.length) M
  | _, _, _ => False
theorem cd_len : CD X (.builtin "len") (one pLen) := .one fun w F H0 Hb H σ Γ M v x Q A e r q => by
  cases r with
  | lst h r => exact semC_of call_len_seq ⟨_, _, rfl, .inl (SqL.of (A.hs.ex _ _ h)), by rw [r.length]; exact A.val e .int q⟩
  | tup h r => exact semC_of call_len_seq ⟨_, _, rfl, .inr (ex_t A.hs.ex h), by rw [r.length]; exact A.val e .int q⟩
  | str => exact semC_of call_len_str ⟨_, rfl, q.1, A.val e .int q.2⟩
  | ptr =>
    obtain ⟨ds, h0, q⟩ := q
    obtain ⟨_, vs, h, r⟩ := A.hs.ce _ _ h0
    exact semC_of call_len_seq ⟨_, _, rfl, .inl (SqL.of h), by rw [r.length]; exact A.val e .int q⟩
  | _ => exact q.elim
/-- the items of a sequence, a cell's too -/
def D.seqM (M : Mm) : D → Option (List D)
  | .lst ds => some ds
  | .tup ds => some ds
  | .ptr p => match M p with
    | some (.l ds) => some ds
    | _ => none
  | _ => none
theorem rep_seqM {F Hb H : Hp} {w : Wi} {σ : St} {Γ : Ga} {M : Mm} {v : V} {d : D} {ds : List D} (A : At X w F Hb H σ Γ M) (r : Rep X.K X.mg Hb v d) (h : d.seqM M = some ds) : ∃ p vs, v = .ref p ∧ (SqL X.K H p vs ∨ SqT X.K H p vs) ∧ Reps X.K X.mg Hb vs ds := by
  cases r with
  | tup h1 h2 => cases h; exact ⟨_, _, rfl, .inr (ex_t A.hs.ex h1), h2⟩
  | lst h1 h2 => cases h; exact ⟨_, _, rfl, .inl (SqL.of (A.hs.ex _ _ h1)), h2⟩
  | ptr =>
    rename_i p
    have h : (match M p with | some (.l ds) => some ds | _ => none) = some ds := h
    cases e : M p with
    | none => rw [e] at h; cases h
    | some c =>
      rw [e] at h
      cases c with
      | l xs =>
        cases h
        obtain ⟨_, vs, h1, h2⟩ := A.hs.ce _ _ e
        exact ⟨_, vs, rfl, .inl (SqL.of h1), h2⟩
      | _ => cases h
  | _ => cases h
theorem cd_list : CD X (.type "list") (one fun d M Q => ∃ ds, d.seqM M = some ds ∧ Q (.lst ds) M) := .one fun w F H0 Hb H σ Γ M v x Q A e r ⟨ds, h, q⟩ => by
  obtain ⟨p, vs, rfl, h1, h2⟩ := rep_seqM A r h
  exact semC_of call_list_of ⟨_, _, rfl, h1, fun l hl => A.lst e h2 hl q⟩
theorem cd_tuple : CD X (.type "tuple") (one fun d M Q => ∃ ds, d.seqM M = some ds ∧ Q (.tup ds) M) := .one fun w F H0 Hb H σ Γ M v x Q A e r ⟨ds, h, q⟩ => by
  cases r with
  | tup h3 h4 => cases h; exact semC_of call_tuple_of ⟨_, _, rfl, .inr ⟨ex_t A.hs.ex h3, A.val e (.tup h3 h4) q⟩⟩
  | lst h3 h4 => cases h; exact semC_of call_tuple_of ⟨_, _, rfl, .inl ⟨SqL.of (A.hs.ex _ _ h3), fun l hl => A.tup e h4 hl q⟩⟩
  | @ptr p =>
    have h : (match M p with | some (.l ds) => some ds | _ => none) = some ds := h
    cases z : M p with
    | none => rw [z] at h; cases h
    | some c =>
      rw [z] at h
      cases c with
      | l xs =>
        cases h
        obtain ⟨_, vs, h1, h2⟩ := A.hs.ce _ _ z
        exact semC_of call_tuple_of ⟨_, _, rfl, .inl ⟨SqL.of h1, fun l hl => A.tup e h2 hl q⟩⟩
      | _ => cases h
  | _ => cases h
/-- int(x), str(x), abs(x) -/
def pInt : PP1
  | .int i, M, Q => Q (.int i) M
  | .bl b, M, Q => Q (.int (if b then 1 else 0)) M
  | _, _, _ => False
theorem cd_int : CD X (.type "int") (one pInt) := .one fun w F H0 Hb H σ Γ M v x Q A e r q => by
  cases r with
  | int => exact semC_of call_int1 (.inl ⟨_, rfl, A.val e .int q⟩)
  | bl => exact semC_of call_int1 (.inr ⟨_, rfl, A.val e .int q⟩)
  | _ => exact q.elim
def pStr : PP1
  | .int i, M, Q => i.natAbs.log2 < 1920 ∧ Q (.str (toString i)) M
  | _, _, _ => False
theorem cd_strI : CD X (.type "str") (one pStr) := .one fun w F H0 Hb H σ Γ M v x Q A e r q => by
  cases r with
  | int => exact semC_of call_str_int ⟨_, rfl, q.1, A.val e .str q.2⟩
  | _ => exact q.elim
def pAbs : PP1
  | .int i, M, Q => Q (.int (if i < 0 then -i else i)) M
  | _, _, _ => False
theorem cd_abs : CD X (.builtin "abs") (one pAbs) := .one fun w F H0 Hb H σ Γ M v x Q A e r q => by
  cases r with
  | int => exact semC_of call_abs ⟨_, rfl, A.val e .int q⟩
  | _ => exact q.elim
theorem reps_bls {K : PySem.W.Frag} {mg : Str → Option Value} {Hb : Hp} : ∀ {bs : List Bool} {vs : List V}, Reps K mg Hb vs (bs.map D.bl) → vs = bs.map V.bl
  | [], _, .nil => rfl
  | b :: bs, _, .cons r t => by cases r; rw [List.map_cons, reps_bls t]
theorem reps_ints {K : PySem.W.Frag} {mg : Str → Option Value} {Hb : Hp} : ∀ {bs : List Int} {vs : List V}, Reps K mg Hb vs (bs.map D.int) → vs = bs.map V.int
  | [], _, .nil => rfl
  | b :: bs, _, .cons r t => by cases r; rw [List.map_cons, reps_ints t]
theorem reps_strs {K : PySem.W.Frag} {mg : Str → Option Value} {Hb : Hp} : ∀ {bs : List Str} {vs : List V}, Reps K mg Hb vs (bs.map D.str) → vs = bs.map V.str
  | [], _, .nil => rfl
  | b :: bs, _, .cons r t => by cases r; rw [List.map_cons, reps_strs t]
theorem of_ints {K : PySem.W.Frag} {mg : Str → Option Value} {Hb : Hp} : ∀ {bs : List Int}, Reps K mg Hb (bs.map V.int) (bs.map D.int)
  | [] => .nil
  | b :: bs => .cons .int of_ints
theorem of_strs {K : PySem.W.Frag} {mg : Str → Option Value} {Hb : Hp} : ∀ {bs : List Str}, Reps K mg Hb (bs.map V.str) (bs.map D.str)
  | [] => .nil
  | b :: bs => .cons .str of_strs
theorem cd_all (hc : X.calm = true) : CD X (.builtin "all") (one fun d M Q => ∃ bs : List Bool, d = .lst (bs.map .bl) ∧ Q (.bl (bs.all id)) M) := .one fun w F H0 Hb H σ Γ M v x Q A e r ⟨bs, h, q⟩ => by
  subst h
  cases r with
  | lst h r => have := reps_bls r; subst this; exact semC_of (cr_all hc) ⟨_, bs, rfl, SqL.of (A.hs.ex _ _ h), A.val e .bl q⟩
theorem cd_any (hc : X.calm = true) : CD X (.builtin "any") (one fun d M Q => ∃ bs : List Bool, d = .lst (bs.map .bl) ∧ Q (.bl (bs.any id)) M) := .one fun w F H0 Hb H σ Γ M v x Q A e r ⟨bs, h, q⟩ => by
  subst h
  cases r with
  | lst h r => have := reps_bls r; subst this; exact semC_of (cr_any hc) ⟨_, bs, rfl, SqL.of (A.hs.ex _ _ h), A.val e .bl q⟩
end
end L3
namespace L3
open PySem PySem.Spec PyProof.Rows L2
section
variable {X : Cx} {w : Wi} {Γ Γ' : Ga} {M : Mm} {Q : D → Mm → Prop} {QT : Bool → Mm → Prop} {x : Str} {i : Nat} {d : D} {a b c e tg : Expr} {es rest' : List Expr} {pos : Pos} {k : Nat} {n : Nm} {P : Po} {st : Stmt} {sts rest : List Stmt}

/-! ### 14. Blocks and statements -/
theorem ds_nil (q : P.nx Γ M) : DS X w [] Γ M P := .mk fun F σ H Hb A => semB_of pss_nil ⟨Hb, Γ, M, Ex.refl _, A, q⟩
/-- a statement ahead of the rest, by its reading -/
theorem ds_seq {t : TS} (hs : PS X st t) {F σ H Hb} (h : t { nx := fun σ' H' => semB X rest (EndsOf X w F Hb P) σ' H', rt := PostR X F Hb P.rt, bk := PostN X w F Hb P.bk, ct := PostN X w F Hb P.ct } σ H) : semB X (st :: rest) (EndsOf X w F Hb P) σ H :=
  semB_of (pss_cons hs semB_ok) h
/-- the wish of the rest -/
def Po.then (P : Po) (X : Cx) (w : Wi) (rest : List Stmt) : Po := { P with nx := fun Γ' M' => DS X w rest Γ' M' P }
theorem ends_then {F Hb : Hp} {σ : St} {H : Hp} (h : semB X sts (EndsOf X w F Hb (P.then X w rest)) σ H) :
    semB X sts { nx := fun σ' H' => semB X rest (EndsOf X w F Hb P) σ' H', rt := PostR X F Hb P.rt, bk := PostN X w F Hb P.bk, ct := PostN X w F Hb P.ct } σ H :=
  semB_mono h (fun σ' H' ⟨Hb', Γ', M', e', A', q⟩ => semB_back e' (q.run F σ' H' Hb' A')) (fun _ _ q => q) (fun _ _ q => q) (fun _ _ q => q)
theorem ds_expr (hs : swapsWith e none pos.line X.env = pure false) (h : DE X w e Γ M fun _ M1 => DS X w rest Γ M1 P) : DS X w (.Expr e pos :: rest) Γ M P := .mk fun F σ H Hb A =>
  ds_seq (ps_expr semE_ok hs) (semE_mono (h.run F σ H Hb A) fun v H1 ⟨Hb1, d, M1, e1, A1, r1, q⟩ => semB_back e1 (q.run F σ H1 Hb1 A1))
theorem ds_pass (h : DS X w rest Γ M P) : DS X w (.Pass pos :: rest) Γ M P := .mk fun F σ H Hb A => ds_seq ps_pass (h.run F σ H Hb A)
theorem ds_ret (h : DE X w e Γ M P.rt) : DS X w (.Return (some e) pos :: rest) Γ M P := .mk fun F σ H Hb A =>
  ds_seq (ps_ret semE_ok) (semE_mono (h.run F σ H Hb A) fun v H1 ⟨Hb1, d, M1, e1, A1, r1, q⟩ => ⟨Hb1, d, M1, e1, A1.hs, r1, q⟩)
theorem ds_retN (h : P.rt .non M) : DS X w (.Return none pos :: rest) Γ M P := .mk fun F σ H Hb A => ds_seq ps_retN ⟨Hb, .non, M, Ex.refl _, A.hs, .non, h⟩
theorem ds_break (h : P.bk Γ M) : DS X w (.Break pos :: rest) Γ M P := .mk fun F σ H Hb A => ds_seq ps_break ⟨Hb, Γ, M, Ex.refl _, A, h⟩
theorem ds_cont (h : P.ct Γ M) : DS X w (.Continue pos :: rest) Γ M P := .mk fun F σ H Hb A => ds_seq ps_continue ⟨Hb, Γ, M, Ex.refl _, A, h⟩
theorem ds_if {A B : List Stmt} (h : DT X w c Γ M fun t M1 => (t = true → DS X w A Γ M1 (P.then X w rest)) ∧ (t = false → DS X w B Γ M1 (P.then X w rest))) : DS X w (.If c A B pos :: rest) Γ M P := .mk fun F σ H Hb A' => by
  refine ds_seq (ps_if semT_ok semB_ok semB_ok) (semT_mono (h.run F σ H Hb A') fun t H1 ⟨Hb1, M1, e1, A1, q1, q2⟩ => ?_)
  cases t with
  | true => rw [if_pos rfl]; exact ends_then (semB_back e1 ((q1 rfl).run F σ H1 Hb1 A1))
  | false => rw [if_neg Bool.false_ne_true]; exact ends_then (semB_back e1 ((q2 rfl).run F σ H1 Hb1 A1))
theorem ds_imp {P' : Po} (h : DS X w sts Γ M P) (h1 : ∀ Γ' M', P.nx Γ' M' → P'.nx Γ' M') (h2 : ∀ d M', P.rt d M' → P'.rt d M') (h3 : ∀ Γ' M', P.bk Γ' M' → P'.bk Γ' M') (h4 : ∀ Γ' M', P.ct Γ' M' → P'.ct Γ' M') : DS X w sts Γ M P' := .mk fun F σ H Hb A =>
  semB_mono (h.run F σ H Hb A) (fun _ _ ⟨a, b, c, d, e, q⟩ => ⟨a, b, c, d, e, h1 _ _ q⟩) (fun _ _ ⟨a, b, c, d, e, f, q⟩ => ⟨a, b, c, d, e, f, h2 _ _ q⟩) (fun _ _ ⟨a, b, c, d, e, q⟩ => ⟨a, b, c, d, e, h3 _ _ q⟩) (fun _ _ ⟨a, b, c, d, e, q⟩ => ⟨a, b, c, d, e, h4 _ _ q⟩)
/-- an if whose ways meet again at I -/
theorem ds_ifI {A B : List Stmt} (I : Ga → Mm → Prop) (h : DT X w c Γ M fun t M1 => (t = true → DS X w A Γ M1 { P with nx := I }) ∧ (t = false → DS X w B Γ M1 { P with nx := I })) (hr : ∀ Γ' M', I Γ' M' → DS X w rest Γ' M' P) : DS X w (.If c A B pos :: rest) Γ M P :=
  ds_if (dt_imp h fun t M1 ⟨h1, h2⟩ => ⟨fun e => ds_imp (h1 e) hr (fun _ _ q => q) (fun _ _ q => q) (fun _ _ q => q), fun e => ds_imp (h2 e) hr (fun _ _ q => q) (fun _ _ q => q) (fun _ _ q => q)⟩)
/-! ### 15. Targets -/
theorem dg_name (S : Sc X k n) (hp : Put Γ x d Γ' i) (hx : x ∈ n.locs) {Q : Ga → Mm → Prop} (q : Q Γ' M) : DG X w (.Name x pos) d Γ M Q := .mk fun F σ H Hb v A r => by
  obtain ⟨o, ho⟩ := hp.mem.2.1
  exact semG_of (pg_name S.nd (A.sl.nm _ ho).1 (S.loc x hx).1 (S.loc x hx).2) ⟨Hb, Γ', M, Ex.refl _, A.put hp r, q⟩
end
def semGs (X : Cx) (ts : List Expr) : TGs := fun vs σ H Q => ∀ pins s us, Inv X pins σ H s → Vals vs us → wpAny (model X.prog X.w) X.A (assignInOrder ((assignEach ts X.env).map (·.2)) us) (fun _ s' => ∃ σ' H', Inv X pins σ' H' s' ∧ Q σ' H') X.xe s
/-- what a target does, beside the data: the slots but those of vs stay -/
def PostV (X : Cx) (w : Wi) (vs : List Nat) (F Hb : Hp) (σ : St) (Q : Ga → Mm → Prop) : St → Hp → Prop := fun σ' H' => wipe σ' vs = wipe σ vs ∧ PostN X w F Hb Q σ' H'
structure DGV (X : Cx) (w : Wi) (vs : List Nat) (tg : Expr) (d : D) (Γ : Ga) (M : Mm) (Q : Ga → Mm → Prop) : Prop where
  run : ∀ F σ H Hb v, At X w F Hb H σ Γ M → Rep X.K X.mg Hb v d → semG X tg v σ H (PostV X w vs F Hb σ Q)
structure DGs (X : Cx) (w : Wi) (vs : List Nat) (ts : List Expr) (ds : List D) (Γ : Ga) (M : Mm) (Q : Ga → Mm → Prop) : Prop where
  run : ∀ F σ H Hb us, At X w F Hb H σ Γ M → Reps X.K X.mg Hb us ds → semGs X ts us σ H (PostV X w vs F Hb σ Q)
theorem wipe_set (σ : St) (x : Option V) : ∀ {vs : List Nat} {i : Nat}, i ∈ vs → wipe (σ.set i x) vs = wipe σ vs
  | v :: vs, i, h => by
    by_cases e : i = v
    · subst e
      unfold wipe
      by_cases h' : i ∈ vs
      · rw [wipe_set σ x h']
      · have key : ∀ (σ : St) (vs : List Nat), i ∉ vs → wipe (σ.set i x) vs = (wipe σ vs).set i x := fun σ vs => by
          induction vs with
          | nil => intro _; rfl
          | cons u vs ih =>
            intro h2
            simp only [List.mem_cons, not_or] at h2
            unfold wipe
            rw [ih h2.2, List.set_comm _ _ h2.1]
        rw [key σ vs h', List.set_set]
    · rcases List.mem_cons.mp h with h' | h'
      · exact absurd h' e
      · unfold wipe; rw [wipe_set σ x h']
section
variable {X : Cx} {w : Wi} {Γ Γ' : Ga} {M : Mm} {Q : D → Mm → Prop} {QT : Bool → Mm → Prop} {x : Str} {i : Nat} {d : D} {a b c e tg : Expr} {es rest' : List Expr} {pos : Pos} {k : Nat} {n : Nm} {P : Po} {st : Stmt} {sts rest : List Stmt} {vs : List Nat} {QG : Ga → Mm → Prop}
theorem semGs_ok {ts : List Expr} : PGs X ts (semGs X ts) := ⟨fun pins s σ H vs us Q I r h => h pins s us I r⟩
theorem semGs_of {ts : List Expr} {t : TGs} (h : PGs X ts t) {us : List V} {σ : St} {H : Hp} {Q : St → Hp → Prop} (q : t us σ H Q) : semGs X ts us σ H Q := fun pins s ws I r => h.run pins s σ H us ws Q I r q
theorem semGs_mono {ts : List Expr} {us : List V} {σ : St} {H : Hp} {Q Q' : St → Hp → Prop} (h : semGs X ts us σ H Q) (hq : ∀ v H', Q v H' → Q' v H') : semGs X ts us σ H Q' := fun pins s u I r =>
  thn (h pins s u I r) fun _ _ ⟨σ', H', I', q⟩ => ⟨σ', H', I', hq σ' H' q⟩
theorem PostN.slots {F Hb : Hp} {σ : St} {H : Hp} (h : PostN X w F Hb QG σ H) : ∃ Γ' M', QG Γ' M' := by obtain ⟨_, Γ', M', _, _, q⟩ := h; exact ⟨Γ', M', q⟩
theorem dgv_name (S : Sc X k n) (hp : Put Γ x d Γ' i) (hx : x ∈ n.locs) (hv : i ∈ vs) (q : QG Γ' M) : DGV X w vs (.Name x pos) d Γ M QG := .mk fun F σ H Hb v A r => by
  obtain ⟨o, ho⟩ := hp.mem.2.1
  exact semG_of (pg_name S.nd (A.sl.nm _ ho).1 (S.loc x hx).1 (S.loc x hx).2) ⟨wipe_set σ _ hv, Hb, Γ', M, Ex.refl _, A.put hp r, q⟩
theorem dg_dgv (h : DGV X w vs tg d Γ M QG) : DG X w tg d Γ M QG := .mk fun F σ H Hb v A r => semG_mono (h.run F σ H Hb v A r) fun _ _ q => q.2
theorem dgs_nil (q : QG Γ M) : DGs X w vs [] [] Γ M QG := .mk fun F σ H Hb us A r => by
  cases r
  exact semGs_of pgs_nil ⟨rfl, rfl, Hb, Γ, M, Ex.refl _, A, q⟩
theorem dgs_cons {ds : List D} (hs : (assignEach (e :: es) X.env).map (·.2) = assign e X.env :: (assignEach es X.env).map (·.2)) (h : DGV X w vs e d Γ M fun Γ1 M1 => DGs X w vs es ds Γ1 M1 QG) : DGs X w vs (e :: es) (d :: ds) Γ M QG := .mk fun F σ H Hb us A r => by
  cases r with
  | cons r1 r2 =>
    refine semGs_of (pgs_cons semG_ok semGs_ok hs) ⟨_, _, rfl, ?_⟩
    refine semG_mono (h.run F σ H Hb _ A r1) fun σ1 H1 ⟨w1, Hb1, Γ1, M1, e1, A1, q1⟩ => ?_
    exact semGs_mono (q1.run F σ1 H1 Hb1 _ A1 (r2.mono e1)) fun σ2 H2 ⟨w2, q2⟩ => ⟨w2.trans w1, q2.back e1⟩
theorem dgv_tup {ds : List D} {kk : Nat} (S : Sc X k n) (hd : d.seq = some ds) (hn : (assignEach es X.env).length = ds.length) (hst : (assignEach es X.env).findIdx? (·.1) = none) (h : DGs X w vs es ds Γ M QG) : DGV X w vs (.Tuple es kk pos) d Γ M QG := .mk fun F σ H Hb v A r => by
  cases r with
  | tup h1 h2 => cases hd; exact semG_of (pg_tup S.calm semGs_ok rfl hst) ⟨_, _, rfl, ex_t A.hs.ex h1, by rw [h2.length]; exact hn.symm, h.run F σ H Hb _ A h2⟩
  | lst h1 h2 => cases hd; exact semG_of (pg_lst S.calm semGs_ok rfl hst) ⟨_, _, rfl, SqL.of (A.hs.ex _ _ h1), by rw [h2.length]; exact hn.symm, h.run F σ H Hb _ A h2⟩
  | _ => cases hd
/-- target = value -/
theorem ds_asg (hs : swapsWithSole [tg] e pos.line X.env = pure false) (hw : swappedStores [tg] e X.env = pure none) (h1 : (assignEach [tg] X.env).map (·.2) = [assign tg X.env])
    (h : DE X w e Γ M fun d M1 => DG X w tg d Γ M1 fun Γ2 M2 => DS X w rest Γ2 M2 P) : DS X w (.Assign [tg] e pos :: rest) Γ M P := .mk fun F σ H Hb A =>
  ds_seq (ps_asg semE_ok semG_ok hs hw h1) (semE_mono (h.run F σ H Hb A) fun v H1 ⟨Hb1, d, M1, e1, A1, r1, q⟩ =>
    semG_mono (q.run F σ H1 Hb1 v A1 r1) fun σ2 H2 ⟨Hb2, Γ2, M2, e2, A2, q2⟩ => semB_back (e1.trans e2) (q2.run F σ2 H2 Hb2 A2))
/-- name = value (not a comprehension on one line) -/
theorem ds_set {pos' : Pos} (S : Sc X k n) (hx : x ∈ n.locs) {o : Option D} (hm : (x, i, o) ∈ Γ) (hs : swapsWith e (some (.Name x pos')) pos.line X.env = pure false)
    (h : DE X w e Γ M fun d M1 => ∃ Γ', Put Γ x d Γ' i ∧ DS X w rest Γ' M1 P) : DS X w (.Assign [.Name x pos'] e pos :: rest) Γ M P := .mk fun F σ H Hb A => by
  refine ds_seq (ps_set (i := i) S.nd (A.sl.nm _ hm).1 (S.loc x hx).1 semE_ok hs (S.loc x hx).2) (semE_mono (h.run F σ H Hb A) fun v H1 ⟨Hb1, d, M1, e1, A1, r1, Γ', hp, q⟩ => ?_)
  exact semB_back e1 (q.run F _ H1 Hb1 (A1.put hp r1))
/-- a, b = x, y: two local names -/
theorem ds_par {x y : Str} {j : Nat} {px py pt : Pos} {kt k2 pt2} (S : Sc X k n) {o o' : Option D} (hx : (x, i, o) ∈ Γ) (hy : (y, j, o') ∈ Γ) (hij : i ≠ j)
    (lx : X.env.scope.names.lookup x = some .local) (ly : X.env.scope.names.lookup y = some .local)
    (hw : swappedStores [.Tuple [.Name x px, .Name y py] kt pt] (.Tuple [a, b] k2 pt2) X.env = pure (some [x, y]))
    (hs : swapsWithSole [.Tuple [.Name x px, .Name y py] kt pt] (.Tuple [a, b] k2 pt2) pos.line X.env = pure false)
    (h : DA X w [a, b] Γ M fun ds M1 => ∃ d1 d2 Γ1 Γ2, ds = [d1, d2] ∧ Put Γ x d1 Γ1 i ∧ Put Γ1 y d2 Γ2 j ∧ DS X w rest Γ2 M1 P) : DS X w (.Assign [.Tuple [.Name x px, .Name y py] kt pt] (.Tuple [a, b] k2 pt2) pos :: rest) Γ M P := .mk fun F σ H Hb A => by
  refine ds_seq (ps_par (i := i) (j := j) S.calm S.nd (A.sl.nm _ hx).1 (A.sl.nm _ hy).1 hij lx ly semA_ok hw hs) (semA_mono (h.run F σ H Hb A) fun v H1 ⟨Hb1, ds, M1, e1, A1, r1, d1, d2, Γ1, Γ2, hd, p1, p2, q⟩ => ?_)
  subst hd
  cases r1 with
  | cons r1 r2 =>
    cases r2 with
    | cons r2 r3 =>
      cases r3
      exact ⟨_, _, rfl, semB_back e1 (q.run F _ H1 Hb1 ((A1.put p1 r1).put p2 r2))⟩
theorem ds_par3 {x y z : Str} {j l : Nat} {px py pz pt : Pos} {kt k2 pt2} (S : Sc X k n) {o o' o'' : Option D} (hx : (x, i, o) ∈ Γ) (hy : (y, j, o') ∈ Γ) (hz : (z, l, o'') ∈ Γ) (hij : i ≠ j) (hil : i ≠ l) (hjl : j ≠ l)
    (lx : X.env.scope.names.lookup x = some .local) (ly : X.env.scope.names.lookup y = some .local) (lz : X.env.scope.names.lookup z = some .local)
    (hw : swappedStores [.Tuple [.Name x px, .Name y py, .Name z pz] kt pt] (.Tuple [a, b, c] k2 pt2) X.env = pure (some [x, y, z]))
    (hs : swapsWithSole [.Tuple [.Name x px, .Name y py, .Name z pz] kt pt] (.Tuple [a, b, c] k2 pt2) pos.line X.env = pure false)
    (h : DA X w [a, b, c] Γ M fun ds M1 => ∃ d1 d2 d3 Γ1 Γ2 Γ3, ds = [d1, d2, d3] ∧ Put Γ x d1 Γ1 i ∧ Put Γ1 y d2 Γ2 j ∧ Put Γ2 z d3 Γ3 l ∧ DS X w rest Γ3 M1 P) : DS X w (.Assign [.Tuple [.Name x px, .Name y py, .Name z pz] kt pt] (.Tuple [a, b, c] k2 pt2) pos :: rest) Γ M P := .mk fun F σ H Hb A => by
  refine ds_seq (ps_par3 (i := i) (j := j) (l := l) S.calm S.nd (A.sl.nm _ hx).1 (A.sl.nm _ hy).1 (A.sl.nm _ hz).1 hij hil hjl lx ly lz semA_ok hw hs) (semA_mono (h.run F σ H Hb A) fun v H1 ⟨Hb1, ds, M1, e1, A1, r1, d1, d2, d3, Γ1, Γ2, Γ3, hd, p1, p2, p3, q⟩ => ?_)
  subst hd
  cases r1 with
  | cons r1 r2 =>
    cases r2 with
    | cons r2 r3 =>
      cases r3 with
      | cons r3 r4 =>
        cases r4
        exact ⟨_, _, _, rfl, semB_back e1 (q.run F _ H1 Hb1 (((A1.put p1 r1).put p2 r2).put p3 r3))⟩

/-! ### 16. What is walked -/
/-- J walks the items ds, over the heaps that hold Hb -/
def ItD (X : Cx) (J : It) (ds : List D) (Hb : Hp) : Prop := ∀ i F Hb' H M, Ex Hb Hb' → Hs X.K X.mg F Hb' H M →
  (i < ds.length → J.go i H ∧ ∀ v H', J.yld i H v H' → ∃ Hb2 d, Ex Hb' Hb2 ∧ Hs X.K X.mg F Hb2 H' M ∧ ds[i]? = some d ∧ Rep X.K X.mg Hb2 v d) ∧ (ds.length ≤ i → J.stop i H)
end
def semIt (X : Cx) (tg iter : Expr) : TI := fun σ H R => ∀ pins s, Inv X pins σ H s → wpAny (model X.prog X.w) X.A (eval iter X.env) (fun v s1 => wpAny (model X.prog X.w) X.A (pyIter v) (PIE X pins σ tg R) X.xe s1) X.xe s
structure DI (X : Cx) (w : Wi) (tg iter : Expr) (Γ : Ga) (M : Mm) (Q : List D → Mm → Prop) : Prop where
  run : ∀ F σ H Hb, At X w F Hb H σ Γ M → semIt X tg iter σ H fun J H1 => ∃ Hb1 M1 ds, Ex Hb Hb1 ∧ At X w F Hb1 H1 σ Γ M1 ∧ ItD X J ds Hb1 ∧ Q ds M1
section
variable {X : Cx} {w : Wi} {Γ Γ' : Ga} {M : Mm} {Q : List D → Mm → Prop} {x : Str} {i : Nat} {d : D} {a b c e tg iter : Expr} {es rest' : List Expr} {pos : Pos} {k : Nat} {n : Nm} {P : Po} {st : Stmt} {sts rest : List Stmt} {vs : List Nat} {QG : Ga → Mm → Prop}
theorem semIt_ok : PI X tg iter (semIt X tg iter) := ⟨fun pins s σ H R I h => h pins s I⟩
theorem semIt_of {wi : TI} (h : PI X tg iter wi) {σ : St} {H : Hp} {R : It → Hp → Prop} (q : wi σ H R) : semIt X tg iter σ H R := fun pins s I => h.run pins s σ H R I q
theorem semIt_mono {σ : St} {H : Hp} {R R' : It → Hp → Prop} (h : semIt X tg iter σ H R) (hq : ∀ J H', R J H' → R' J H') : semIt X tg iter σ H R' := fun pins s I =>
  thn (h pins s I) fun _ _ q => thn q fun _ _ ⟨it, fp, tn, J, H', a, b, c, d, e, q⟩ => ⟨it, fp, tn, J, H', a, b, c, d, e, hq _ _ q⟩
theorem At.hsTo {F Hb Hb2 H H2 : Hp} {σ : St} {M2 : Mm} (A : At X w F Hb H σ Γ M) (e : Ex Hb Hb2) (h : Hs X.K X.mg F Hb2 H2 M2) : At X w F Hb2 H2 σ Γ M2 := ⟨A.wok, A.h0.trans e, A.f0, h, A.sl.mono e⟩
theorem itd_list {p : Addr} {us : List V} {ds : List D} {Hb : Hp} (h : Hb p = some (.lst us)) (r : Reps X.K X.mg Hb us ds) : ItD X (Itl X.K p) ds Hb := fun i F Hb' H M e hs => by
  have hq : SqL X.K H p us := SqL.of (hs.ex _ _ (e _ _ h))
  refine ⟨fun hi => ?_, fun hi => ⟨us, hq, by rw [r.length]; exact hi⟩⟩
  obtain ⟨v, h1, h2⟩ := r.get (List.getElem?_eq_getElem hi)
  refine ⟨⟨us, v, hq, h1⟩, fun v' H' ⟨e1, e2⟩ => ?_⟩
  subst e1
  have := (e2 us hq).symm.trans h1
  cases this
  exact ⟨Hb', _, Ex.refl _, hs, List.getElem?_eq_getElem hi, h2.mono e⟩
theorem itd_tup {p : Addr} {us : List V} {ds : List D} {Hb : Hp} (h : SqT X.K Hb p us) (r : Reps X.K X.mg Hb us ds) : ItD X (Itt X.K p) ds Hb := fun i F Hb' H M e hs => by
  have hq : SqT X.K H p us := ex_t hs.ex (ex_t e h)
  refine ⟨fun hi => ?_, fun hi => ⟨us, hq, by rw [r.length]; exact hi⟩⟩
  obtain ⟨v, h1, h2⟩ := r.get (List.getElem?_eq_getElem hi)
  refine ⟨⟨us, v, hq, h1⟩, fun v' H' ⟨e1, e2⟩ => ?_⟩
  subst e1
  have := (e2 us hq).symm.trans h1
  cases this
  exact ⟨Hb', _, Ex.refl _, hs, List.getElem?_eq_getElem hi, h2.mono e⟩
/-- the numbers lo, lo + 1, .. -/
def rngD (lo : Int) (n : Nat) : List D := (List.range n).map fun (i : Nat) => D.int (lo + (i : Int))
theorem itd_rng {lo : Int} {n : Nat} {Hb : Hp} : ItD X (Itr lo n) (rngD lo n) Hb := fun i F Hb' H M e hs => by
  have l : (rngD lo n).length = n := by unfold rngD; simp
  rw [l]
  refine ⟨fun hi => ⟨hi, fun v' H' ⟨e1, e2⟩ => ?_⟩, fun hi => hi⟩
  subst e1 e2
  exact ⟨Hb', .int (lo + i), Ex.refl _, hs, by unfold rngD; simp [hi], .int⟩
/-- over a list, a tuple -/
theorem di_list (h : DE X w iter Γ M fun d M1 => ∃ ds, d = .lst ds ∧ Q ds M1) : DI X w tg iter Γ M Q := .mk fun F σ H Hb A =>
  semIt_of (pi_list semE_ok) (semE_mono (h.run F σ H Hb A) fun v H1 ⟨Hb1, d, M1, e1, A1, r1, ds, hd, q⟩ => by
    subst hd
    cases r1 with
    | lst h1 h2 => exact ⟨_, rfl, ⟨_, SqL.of (A1.hs.ex _ _ h1)⟩, Hb1, M1, ds, e1, A1, itd_list h1 h2, q⟩)
theorem di_tup (h : DE X w iter Γ M fun d M1 => ∃ ds, d = .tup ds ∧ Q ds M1) : DI X w tg iter Γ M Q := .mk fun F σ H Hb A =>
  semIt_of (pi_tup semE_ok) (semE_mono (h.run F σ H Hb A) fun v H1 ⟨Hb1, d, M1, e1, A1, r1, ds, hd, q⟩ => by
    subst hd
    cases r1 with
    | tup h1 h2 => exact ⟨_, rfl, ⟨_, ex_t A1.hs.ex h1⟩, Hb1, M1, ds, e1, A1, itd_tup h1 h2, q⟩)
theorem di_range1 {p : Pos} (S : Sc X k n) (hx : ("range" : Str) ∈ n.glb) (hm : X.mg "range" = none) (hs : starEach [a] X.env = [(false, eval a X.env)]) (h : DA X w [a] Γ M fun ds M1 => ∃ n : Int, ds = [.int n] ∧ -(2 ^ 62) ≤ n ∧ n < 2 ^ 62 ∧ Q (rngD 0 n.toNat) M1) : DI X w tg (.Call (.Name "range" p) [a] [] pos) Γ M Q := .mk fun F σ H Hb A =>
  semIt_of (pi_range1 (S.gl _ hx).1 hm semA_ok hs) (semA_mono (h.run F σ H Hb A) fun v H1 ⟨Hb1, d, M1, e1, A1, r1, n, hd, q1, q2, q⟩ => by
    subst hd
    cases r1 with
    | cons r1 r2 => cases r2; cases r1; exact ⟨n, rfl, q1, q2, Hb1, M1, _, e1, A1, itd_rng, q⟩)
theorem di_range2 {p : Pos} (S : Sc X k n) (hx : ("range" : Str) ∈ n.glb) (hm : X.mg "range" = none) (hs : starEach [a, b] X.env = [(false, eval a X.env), (false, eval b X.env)]) (hs2 : starEach [b] X.env = [(false, eval b X.env)])
    (h : DA X w [a, b] Γ M fun ds M1 => ∃ m n : Int, ds = [.int m, .int n] ∧ (-(2 ^ 62) ≤ m ∧ m < 2 ^ 62 ∧ -(2 ^ 62) ≤ n ∧ n < 2 ^ 62) ∧ Q (rngD m (n - m).toNat) M1) : DI X w tg (.Call (.Name "range" p) [a, b] [] pos) Γ M Q := .mk fun F σ H Hb A =>
  semIt_of (pi_range2 (S.gl _ hx).1 hm semA_ok hs hs2) (semA_mono (h.run F σ H Hb A) fun v H1 ⟨Hb1, d, M1, e1, A1, r1, m, n, hd, q1, q⟩ => by
    subst hd
    cases r1 with
    | cons r1 r2 =>
      cases r2 with
      | cons r2 r3 => cases r3; cases r1; cases r2; exact ⟨m, n, rfl, q1, Hb1, M1, _, e1, A1, itd_rng, q⟩)
end
end L3
namespace L3
open PySem PySem.Spec PyProof.Rows L2
section
variable {X : Cx} {w : Wi} {Γ Γ' : Ga} {M : Mm} {Q : List D → Mm → Prop} {x : Str} {i : Nat} {d : D} {a b c e tg iter elt : Expr} {es rest' : List Expr} {pos : Pos} {k : Nat} {n : Nm} {P : Po} {st : Stmt} {sts rest : List Stmt} {vs : List Nat} {QG : Ga → Mm → Prop}

/-! ### zip, enumerate -/
def zipD (xs ys : List D) : List D := List.zipWith (fun x y => .tup [x, y]) xs ys
theorem zipD_get {xs ys : List D} {i : Nat} (h1 : i < xs.length) (h2 : i < ys.length) : (zipD xs ys)[i]? = some (.tup [xs[i], ys[i]]) := by
  unfold zipD
  rw [List.getElem?_zipWith, List.getElem?_eq_getElem h1, List.getElem?_eq_getElem h2]
theorem zipD_length (xs ys : List D) : (zipD xs ys).length = min xs.length ys.length := by unfold zipD; simp
theorem itd_zip {p q : Addr} {us ws : List V} {xs ys : List D} {Hb : Hp} (h : Hb p = some (.lst us)) (r : Reps X.K X.mg Hb us xs) (h' : Hb q = some (.lst ws)) (r' : Reps X.K X.mg Hb ws ys) : ItD X (Itz X.K p q) (zipD xs ys) Hb := fun i F Hb' H M e hs => by
  have hq : SqL X.K H p us := SqL.of (hs.ex _ _ (e _ _ h))
  have hq' : SqL X.K H q ws := SqL.of (hs.ex _ _ (e _ _ h'))
  rw [zipD_length]
  refine ⟨fun hi => ?_, fun hi => ⟨us, ws, hq, hq', by rw [r.length, r'.length]; omega⟩⟩
  have i1 : i < xs.length := by omega
  have i2 : i < ys.length := by omega
  obtain ⟨v, h1, h2⟩ := r.get (List.getElem?_eq_getElem i1)
  obtain ⟨v', h1', h2'⟩ := r'.get (List.getElem?_eq_getElem i2)
  refine ⟨⟨us, ws, v, v', hq, hq', h1, h1'⟩, fun u H' ⟨T, x, y, e1, e2, e3, e4, e5⟩ => ?_⟩
  subst e1 e3
  have z1 := (e4 us hq).symm.trans h1
  have z2 := (e5 ws hq').symm.trans h1'
  cases z1; cases z2
  have ex := Ex.new (o := .tup [v, v']) (hs.ex.free e2)
  exact ⟨_, _, ex, hs.new e2 _, zipD_get i1 i2, .tup (SqT.of upd_same) (.cons ((h2.mono e).mono ex) (.cons ((h2'.mono e).mono ex) .nil))⟩
theorem itd_zipT {p q : Addr} {us ws : List V} {xs ys : List D} {Hb : Hp} (h : SqT X.K Hb p us) (r : Reps X.K X.mg Hb us xs) (h' : SqT X.K Hb q ws) (r' : Reps X.K X.mg Hb ws ys) : ItD X (RZ.ItzT X.K p q) (zipD xs ys) Hb := fun i F Hb' H M e hs => by
  have hq : SqT X.K H p us := ex_t hs.ex (ex_t e h)
  have hq' : SqT X.K H q ws := ex_t hs.ex (ex_t e h')
  rw [zipD_length]
  refine ⟨fun hi => ?_, fun hi => ⟨us, ws, hq, hq', by rw [r.length, r'.length]; omega⟩⟩
  have i1 : i < xs.length := by omega
  have i2 : i < ys.length := by omega
  obtain ⟨v, h1, h2⟩ := r.get (List.getElem?_eq_getElem i1)
  obtain ⟨v', h1', h2'⟩ := r'.get (List.getElem?_eq_getElem i2)
  refine ⟨⟨us, ws, v, v', hq, hq', h1, h1'⟩, fun u H' ⟨T, x, y, e1, e2, e3, e4, e5⟩ => ?_⟩
  subst e1 e3
  have z1 := (e4 us hq).symm.trans h1
  have z2 := (e5 ws hq').symm.trans h1'
  cases z1; cases z2
  have ex := Ex.new (o := .tup [v, v']) (hs.ex.free e2)
  exact ⟨_, _, ex, hs.new e2 _, zipD_get i1 i2, .tup (SqT.of upd_same) (.cons ((h2.mono e).mono ex) (.cons ((h2'.mono e).mono ex) .nil))⟩
def enumD : Nat → List D → List D
  | _, [] => []
  | n, d :: ds => .tup [.int (n : Int), d] :: enumD (n + 1) ds
theorem enumD_length : ∀ (n : Nat) (ds : List D), (enumD n ds).length = ds.length
  | _, [] => rfl
  | n, d :: ds => congrArg (· + 1) (enumD_length (n + 1) ds)
theorem enumD_get : ∀ {n : Nat} {ds : List D} {i : Nat} {d : D}, ds[i]? = some d → (enumD n ds)[i]? = some (.tup [.int ((n + i : Nat) : Int), d])
  | n, d :: ds, 0, d', h => by simp at h; subst h; rfl
  | n, d :: ds, i + 1, d', h => by
    have := enumD_get (n := n + 1) (ds := ds) (i := i) (d := d') (by simpa using h)
    rw [show n + (i + 1) = n + 1 + i by omega]
    simpa [enumD] using this
theorem itd_enum {p : Addr} {us : List V} {xs : List D} {Hb : Hp} (h : Hb p = some (.lst us)) (r : Reps X.K X.mg Hb us xs) : ItD X (Ite X.K p) (enumD 0 xs) Hb := fun i F Hb' H M e hs => by
  have hq : SqL X.K H p us := SqL.of (hs.ex _ _ (e _ _ h))
  rw [enumD_length]
  refine ⟨fun hi => ?_, fun hi => ⟨us, hq, by rw [r.length]; omega⟩⟩
  obtain ⟨v, h1, h2⟩ := r.get (List.getElem?_eq_getElem hi)
  refine ⟨⟨us, v, hq, h1⟩, fun u H' ⟨T, x, e1, e2, e3, e4⟩ => ?_⟩
  subst e1 e3
  have z1 := (e4 us hq).symm.trans h1
  cases z1
  have ex := Ex.new (o := .tup [.int (i : Nat), v]) (hs.ex.free e2)
  refine ⟨_, _, ex, hs.new e2 _, enumD_get (List.getElem?_eq_getElem hi), ?_⟩
  rw [Nat.zero_add]
  exact .tup (SqT.of upd_same) (.cons .int (.cons ((h2.mono e).mono ex) .nil))
theorem di_zip {p tpos : Pos} {elts : List Expr} {kk : Nat} (S : Sc X k n) (hx : ("zip" : Str) ∈ n.glb) (hm : X.mg "zip" = none) (hs : starEach [a, b] X.env = (false, eval a X.env) :: starEach [b] X.env) (hpl : (backTo pos (starEach [b] X.env)).any (·.1) = false)
    (h : DA X w [a, b] Γ M fun ds M1 => ∃ xs ys, (ds = [.lst xs, .lst ys] ∨ ds = [.tup xs, .tup ys]) ∧ Q (zipD xs ys) M1) : DI X w (.Tuple elts kk tpos) (.Call (.Name "zip" p) [a, b] [] pos) Γ M Q := .mk fun F σ H Hb A =>
  semIt_of (RZ.pi_zipA (S.gl _ hx).1 hm semA_ok hs hpl) (semA_mono (h.run F σ H Hb A) fun v H1 ⟨Hb1, d, M1, e1, A1, r1, xs, ys, hd, q⟩ => by
    rcases hd with hd | hd
    · subst hd
      cases r1 with
      | cons r1 r2 =>
        cases r2 with
        | cons r2 r3 =>
          cases r3
          cases r1 with
          | lst h1 t1 =>
            cases r2 with
            | lst h2 t2 => exact ⟨_, _, _, _, rfl, .inl ⟨SqL.of (A1.hs.ex _ _ h1), SqL.of (A1.hs.ex _ _ h2), Hb1, M1, _, e1, A1, itd_zip h1 t1 h2 t2, q⟩⟩
    · subst hd
      cases r1 with
      | cons r1 r2 =>
        cases r2 with
        | cons r2 r3 =>
          cases r3
          cases r1 with
          | tup h1 t1 =>
            cases r2 with
            | tup h2 t2 => exact ⟨_, _, _, _, rfl, .inr ⟨ex_t A1.hs.ex h1, ex_t A1.hs.ex h2, Hb1, M1, _, e1, A1, itd_zipT h1 t1 h2 t2, q⟩⟩)
theorem di_enum {p tpos : Pos} {elts : List Expr} {kk : Nat} (S : Sc X k n) (hx : ("enumerate" : Str) ∈ n.glb) (hm : X.mg "enumerate" = none) (hs : starEach [a] X.env = [(false, eval a X.env)])
    (h : DE X w a Γ M fun d M1 => ∃ xs, d = .lst xs ∧ Q (enumD 0 xs) M1) : DI X w (.Tuple elts kk tpos) (.Call (.Name "enumerate" p) [a] [] pos) Γ M Q := .mk fun F σ H Hb A => by
  have ha : DA X w [a] Γ M fun ds M1 => ∃ xs, ds = [.lst xs] ∧ Q (enumD 0 xs) M1 := da_cons hs (de_imp h fun d M1 ⟨xs, e, q⟩ => da_nil ⟨xs, by rw [e], q⟩)
  refine semIt_of (pi_enum (S.gl _ hx).1 hm semA_ok hs) (semA_mono (ha.run F σ H Hb A) fun v H1 ⟨Hb1, d, M1, e1, A1, r1, xs, hd, q⟩ => ?_)
  subst hd
  cases r1 with
  | cons r1 r2 =>
    cases r2
    cases r1 with
    | lst h1 t1 => exact ⟨_, _, rfl, SqL.of (A1.hs.ex _ _ h1), Hb1, M1, _, e1, A1, itd_enum h1 t1, q⟩

/-! ### 17. for, while -/
/-- for: I by the turn, the names, the memory -/
theorem ds_for {body : List Stmt} (S : Sc X k n) (hs : ∀ x, foldedSetIterable iter X.env x = pure x)
    (h : DI X w tg iter Γ M fun ds M1 => ∃ I : Nat → Ga → Mm → Prop, I 0 Γ M1 ∧ (∀ i d Γ1 M1, ds[i]? = some d → I i Γ1 M1 → DG X w tg d Γ1 M1 fun Γ2 M2 => DS X w body Γ2 M2 { nx := I (i + 1), rt := P.rt, ct := I (i + 1), bk := fun Γ' M' => DS X w rest Γ' M' P }) ∧
      (∀ Γ1 M1, I ds.length Γ1 M1 → DS X w rest Γ1 M1 P)) : DS X w (.For tg iter body [] pos :: rest) Γ M P := .mk fun F σ H Hb A => by
  refine ds_seq (ps_for S.po S.calm semIt_ok semG_ok semB_ok hs) (semIt_mono (h.run F σ H Hb A) fun J H1 ⟨Hb1, M1, ds, e1, A1, it, I, i0, turn, fin⟩ => ?_)
  refine ⟨fun i m σ' H' => m = ds.length - i ∧ i ≤ ds.length ∧ ∃ Hb' Γ' M', Ex Hb1 Hb' ∧ At X w F Hb' H' σ' Γ' M' ∧ I i Γ' M', ⟨ds.length, by simp, Nat.zero_le _, Hb1, Γ, M1, Ex.refl _, A1, i0⟩, ?_⟩
  rintro i m σ' H' ⟨rfl, hi, Hb', Γ', M', e', A', q⟩
  by_cases hlt : i < ds.length
  · obtain ⟨go, yld⟩ := (it i F Hb' H' M' e' A'.hs).1 hlt
    refine .inr ⟨go, fun σ2 H2 => ∃ Hb' Γ' M', Ex Hb1 Hb' ∧ At X w F Hb' H2 σ2 Γ' M' ∧ I (i + 1) Γ' M', fun σ2 H2 z => ⟨ds.length - (i + 1), by omega, rfl, hlt, z⟩, fun v H2 y => ?_⟩
    obtain ⟨Hb2, d, e2, hs2, hd, r⟩ := yld v H2 y
    refine semG_mono ((turn i d Γ' M' hd q).run F σ' H2 Hb2 v (A'.hsTo e2 hs2) r) fun σ3 H3 ⟨Hb3, Γ3, M3, e3, A3, q3⟩ => ?_
    exact semB_mono (q3.run F σ3 H3 Hb3 A3) (fun _ _ ⟨a, b, c, d, e, q⟩ => ⟨a, b, c, ((e'.trans e2).trans e3).trans d, e, q⟩) (fun _ _ z => PostR.back (((e1.trans e').trans e2).trans e3) z)
      (fun _ _ ⟨a, b, c, d, e, q⟩ => semB_back ((((e1.trans e').trans e2).trans e3).trans d) (q.run F _ _ a e)) (fun _ _ ⟨a, b, c, d, e, q⟩ => ⟨a, b, c, ((e'.trans e2).trans e3).trans d, e, q⟩)
  · have e : i = ds.length := by omega
    subst e
    exact .inl ⟨(it _ F Hb' H' M' e' A'.hs).2 (Nat.le_refl _), semB_back (e1.trans e') ((fin Γ' M' q).run F σ' H' Hb' A')⟩
/-- while: I by the measure -/
theorem ds_while {body : List Stmt} (S : Sc X k n) (I : Nat → Ga → Mm → Prop) {m : Nat} (i0 : I m Γ M)
    (turn : ∀ m Γ1 M1, I m Γ1 M1 → DT X w c Γ1 M1 fun t M2 => (t = true → DS X w body Γ1 M2 { nx := fun Γ' M' => ∃ m', m' < m ∧ I m' Γ' M', rt := P.rt, ct := fun Γ' M' => ∃ m', m' < m ∧ I m' Γ' M', bk := fun Γ' M' => DS X w rest Γ' M' P }) ∧ (t = false → DS X w rest Γ1 M2 P)) : DS X w (.While c body [] pos :: rest) Γ M P := .mk fun F σ H Hb A => by
  refine ds_seq (ps_while S.po semT_ok semB_ok) ⟨fun m σ' H' => ∃ Hb' Γ' M', Ex Hb Hb' ∧ At X w F Hb' H' σ' Γ' M' ∧ I m Γ' M', ⟨m, Hb, Γ, M, Ex.refl _, A, i0⟩, ?_⟩
  rintro m σ' H' ⟨Hb', Γ', M', e', A', q⟩
  refine semT_mono ((turn m Γ' M' q).run F σ' H' Hb' A') fun t H2 ⟨Hb2, M2, e2, A2, q1, q2⟩ => ?_
  cases t with
  | true =>
    rw [if_pos rfl]
    refine ⟨fun σ2 H2 => ∃ m', m' < m ∧ ∃ Hb' Γ' M', Ex Hb Hb' ∧ At X w F Hb' H2 σ2 Γ' M' ∧ I m' Γ' M', fun σ2 H2 z => z, ?_⟩
    exact semB_mono ((q1 rfl).run F σ' H2 Hb2 A2) (fun _ _ ⟨a, b, c, d, e, m', l, q⟩ => ⟨m', l, a, b, c, (e'.trans e2).trans d, e, q⟩) (fun _ _ z => PostR.back (e'.trans e2) z)
      (fun _ _ ⟨a, b, c, d, e, q⟩ => semB_back ((e'.trans e2).trans d) (q.run F _ _ a e)) (fun _ _ ⟨a, b, c, d, e, m', l, q⟩ => ⟨m', l, a, b, c, (e'.trans e2).trans d, e, q⟩)
  | false => rw [if_neg Bool.false_ne_true]; exact semB_back (e'.trans e2) ((q2 rfl).run F σ' H2 Hb2 A2)

/-! ### 18. Comprehensions -/
/-- a comprehension's block over the context X -/
abbrev blkX (X : Cx) (scope : Scope) (s : Shared) (H : Hp) (C : Addr) (cl : List (Str × Addr)) (fp : List Addr) : Cx := X.blk s H scope (compEnvC scope cl C X.env) fp
/-- nothing is raised in it -/
abbrev Wi.dry (w : Wi) : Wi := ⟨w.h0, w.f0, fun _ _ _ _ => False⟩
theorem wok_dry {X : Cx} {w : Wi} : WOk X w.dry := fun u s' ⟨_, _, _, _, _, _, _, _, _, _, _, _, _, _, _, _, z⟩ => by
  obtain ⟨_, _, _, _, _, _, _, _, _, _, _, _, _, _, _, _, z⟩ := z
  exact z.elim
/-- the block's names Γb, of the names Γ around: captured ones as they are known, its own unknown -/
structure BlkG (N : List Str) (sc' : Scope) (own : List (Str × Nat)) (Γ Γb : Ga) : Prop where
  nd : (Γb.map (·.2.1)).Nodup
  vis : ∀ e ∈ Γb, Vis sc' e.1 ∧ okN e.1 = true
  get : ∀ e ∈ Γb, (e ∈ Γ ∧ e.2.1 ∉ own.map (·.2)) ∨ (e.2.2 = none ∧ N[e.2.1]? = some e.1)
theorem wipe_get {σ : St} {i : Nat} {x : V} : ∀ {vs : List Nat}, i ∉ vs → σ[i]? = some (some x) → (wipe σ vs)[i]? = some (some x)
  | [], _, h => h
  | v :: vs, hn, h => by
    simp only [List.mem_cons, not_or] at hn
    unfold wipe
    rw [List.getElem?_set_ne (Ne.symm hn.1)]
    exact wipe_get hn.2 h
theorem wipe_wipe (σ : St) (vs : List Nat) : wipe (wipe σ vs) vs = wipe σ vs := by
  have key : ∀ (us : List Nat) (σ : St), (∀ u ∈ us, u ∈ vs) → wipe (wipe σ us) vs = wipe σ vs := fun us => by
    induction us with
    | nil => intro σ _; rfl
    | cons u us ih =>
      intro σ h
      show wipe ((wipe σ us).set u none) vs = _
      rw [wipe_set _ _ (h u List.mem_cons_self)]
      exact ih σ fun z hz => h z (List.mem_cons_of_mem _ hz)
  exact key vs σ fun _ h => h
theorem Slots.blk {K : PySem.W.Frag} {mg : Str → Option Value} {N : List Str} {sc sc' : Scope} {Hb : Hp} {σ : St} {Γ Γb : Ga} {own : List (Str × Nat)} (x : Slots K mg N sc Hb σ Γ) (B : BlkG N sc' own Γ Γb) : Slots K mg N sc' Hb (wipe σ (own.map (·.2))) Γb :=
  ⟨by rw [wipe_length]; exact x.len, B.nd, fun e he => by
    rcases B.get e he with ⟨h, _⟩ | ⟨_, h⟩
    · exact ⟨(x.nm e h).1, B.vis e he⟩
    · exact ⟨h, B.vis e he⟩, fun e he d hd => by
    rcases B.get e he with ⟨h, h'⟩ | ⟨h, _⟩
    · obtain ⟨v, e1, e2⟩ := x.get e h d hd
      exact ⟨v, wipe_get h' e1, e2⟩
    · rw [h] at hd; cases hd⟩
def lcW (X : Cx) (w : Wi) (σ : St) (Γ : Ga) (F Hb1 : Hp) (D0 : Addr) (ds : List D) (I : Nat → List D → Mm → Prop) : Nat → Nat → Hp → Prop := fun i m H' => m = ds.length - i ∧ i ≤ ds.length ∧ ∃ Hb' M' acc us, Ex Hb1 Hb' ∧ At X w (upd F D0 (.lst us)) Hb' H' σ Γ M' ∧ Reps X.K X.mg Hb' us acc ∧ acc.length ≤ i ∧ I i acc M'
end
section
variable {X : Cx} {w : Wi} {Γ Γb : Ga} {M : Mm} {Q : D → Mm → Prop} {a b c e tg iter elt : Expr} {pos : Pos} {k : Nat} {n : Nm} {scope : Scope} {own : List (Str × Nat)} {vs : List Nat}
/-- the reading of a comprehension's parts, in every block -/
def semGA (X : Cx) (scope : Scope) (tg : Expr) : TG := fun v σ H Q => ∀ s0 H0 C cl fp, semG (blkX X scope s0 H0 C cl fp) tg v σ H Q
def semTA (X : Cx) (scope : Scope) (c : Expr) : TT := fun σ H Q => ∀ s0 H0 C cl fp, semT (blkX X scope s0 H0 C cl fp) c σ H Q
def semEA (X : Cx) (scope : Scope) (e : Expr) : TE := fun σ H Q => ∀ s0 H0 C cl fp, semE (blkX X scope s0 H0 C cl fp) e σ H Q
theorem semGA_ok (s0 : Shared) (H0 : Hp) (C : Addr) (cl : List (Str × Addr)) (fp : List Addr) : PG (X.blk s0 H0 scope (compEnvC scope cl C X.env) fp) tg (semGA X scope tg) := ⟨fun pins s σ H v u Q I r h => h s0 H0 C cl fp pins s u I r⟩
theorem semTA_ok (s0 : Shared) (H0 : Hp) (C : Addr) (cl : List (Str × Addr)) (fp : List Addr) : PT (X.blk s0 H0 scope (compEnvC scope cl C X.env) fp) c (semTA X scope c) := ⟨fun pins s σ H Q I h => h s0 H0 C cl fp pins s I⟩
theorem semEA_ok (s0 : Shared) (H0 : Hp) (C : Addr) (cl : List (Str × Addr)) (fp : List Addr) : PE (X.blk s0 H0 scope (compEnvC scope cl C X.env) fp) e (semEA X scope e) := ⟨fun pins s σ H Q I h => h s0 H0 C cl fp pins s I⟩
/-- a clause's tests: none, or one -/
def DIf (X : Cx) (w : Wi) (ifs : List Expr) (Γ : Ga) (M : Mm) (Q : Bool → Mm → Prop) : Prop := match ifs with
  | [] => Q true M
  | [c] => DT X w c Γ M Q
  | _ => False
def semIfA (X : Cx) (scope : Scope) (ifs : List Expr) : TT := match ifs with
  | [] => tYes
  | [c] => semTA X scope c
  | _ => fun _ _ _ => False
theorem semIfA_ok {ifs : List Expr} (s0 : Shared) (H0 : Hp) (C : Addr) (cl : List (Str × Addr)) (fp : List Addr) : PTs (X.blk s0 H0 scope (compEnvC scope cl C X.env) fp) ifs (semIfA X scope ifs) := by
  match ifs with
  | [] => exact pts_nil
  | [c] => exact pts_one (semTA_ok s0 H0 C cl fp)
  | _ :: _ :: _ => exact ⟨fun _ _ _ _ _ _ h => h.elim⟩
theorem Hs.thaw {K : PySem.W.Frag} {mg : Str → Option Value} {F Hb H : Hp} {M : Mm} {p : Addr} {o : HO} (h : Hs K mg (upd F p o) Hb H M) (hp : F p = none) : Hs K mg F (upd Hb p o) H M ∧ Ex Hb (upd Hb p o) := by
  obtain ⟨h1, h2, h3⟩ := h.fr p o upd_same
  refine ⟨⟨fun a u q => ?_, fun q c e => ?_, fun q u e => ?_⟩, Ex.new h2⟩
  · by_cases z : a = p
    · subst z; rw [upd_same] at q; cases q; exact h1
    · rw [upd_ne z] at q; exact h.ex a u q
  · have z : q ≠ p := fun z => by subst z; rw [h3] at e; cases e
    exact ⟨by rw [upd_ne z]; exact (h.ce q c e).1, (h.ce q c e).2.mono (Ex.new h2) rfl⟩
  · have z : q ≠ p := fun z => by subst z; rw [hp] at e; cases e
    obtain ⟨g1, g2, g3⟩ := h.fr q u (by rw [upd_ne z]; exact e)
    exact ⟨g1, by rw [upd_ne z]; exact g2, g3⟩
theorem At.toBlk {F Hb H : Hp} {σ : St} {Γ Γb : Ga} {M : Mm} (A : At X w F Hb H σ Γ M) (B : BlkG X.N (relS scope X.env.scope) own Γ Γb) (s0 : Shared) (H0 : Hp) (C : Addr) (cl : List (Str × Addr)) (fp : List Addr) :
    At (blkX X scope s0 H0 C cl fp) w.dry F Hb H (wipe σ (own.map (·.2))) Γb M := ⟨wok_dry, A.h0, A.f0, A.hs, A.sl.blk B⟩
theorem At.blkTo {F Hb H : Hp} {σ : St} {Γb : Ga} {M : Mm} {s0 : Shared} {H0 : Hp} {C : Addr} {cl : List (Str × Addr)} {fp : List Addr} (A : At (blkX X scope s0 H0 C cl fp) w.dry F Hb H σ Γb M) (s1 : Shared) (H1 : Hp) (C1 : Addr) (cl1 : List (Str × Addr)) (fp1 : List Addr) :
    At (blkX X scope s1 H1 C1 cl1 fp1) w.dry F Hb H σ Γb M := ⟨wok_dry, A.h0, A.f0, A.hs, A.sl⟩
/-- what a comprehension asks -/
def LcD (X : Cx) (w : Wi) (tg iter elt : Expr) (ifs : List Expr) (scope : Scope) (own : List (Str × Nat)) (Γ Γb : Ga) (M : Mm) (Q : D → Mm → Prop) : Prop :=
  DI X w tg iter Γ M fun ds M1 => ds.length ≤ sizeLine ∧ ∃ I : Nat → List D → Mm → Prop, I 0 [] M1 ∧
    (∀ i d acc M, ds[i]? = some d → I i acc M → ∀ s0 H0 C cl fp, DGV (blkX X scope s0 H0 C cl fp) w.dry (own.map (·.2)) tg d Γb M fun Γ2 M2 => ∀ s0 H0 C cl fp, DIf (blkX X scope s0 H0 C cl fp) w.dry ifs Γ2 M2 fun t M3 =>
      (t = true → ∀ s0 H0 C cl fp, DE (blkX X scope s0 H0 C cl fp) w.dry elt Γ2 M3 fun r M4 => I (i + 1) (acc ++ [r]) M4) ∧ (t = false → I (i + 1) acc M3)) ∧ (∀ acc M, I ds.length acc M → Q (.lst acc) M)
theorem lc_reading {ifs : List Expr} {F Hb H : Hp} {σ : St} (A : At X w F Hb H σ Γ M) (B : BlkG X.N (relS scope X.env.scope) own Γ Γb) (h : LcD X w tg iter elt ifs scope own Γ Γb M Q) :
    tLc (semIt X tg iter) (semGA X scope tg) (semIfA X scope ifs) (semEA X scope elt) (own.map (·.2)) σ H (PostE X w F Hb σ Γ Q) := by
  refine semIt_mono (h.run F σ H Hb A) fun J H1 ⟨Hb1, M1, ds, e1, A1, it, hz, I, i0, turn, fin⟩ => fun D0 hD => ?_
  have hF : F D0 = none := A1.hs.freeF hD
  have exF : ∀ o, Ex F (upd F D0 o) := fun o => Ex.new hF
  refine ⟨lcW X w σ Γ F Hb1 D0 ds I, ⟨ds.length, by simp, Nat.zero_le _, Hb1, M1, [], [], Ex.refl _, ⟨A1.wok, A1.h0, A1.f0.trans (exF _), A1.hs.frame hD _, A1.sl⟩, .nil, Nat.zero_le _, i0⟩, ?_⟩
  rintro i m H' ⟨rfl, hi, Hb', M', acc, us, e', A', r', ha, q⟩
  by_cases hlt : i < ds.length
  · obtain ⟨go, yld⟩ := (it i _ Hb' H' M' e' A'.hs).1 hlt
    refine .inr ⟨go, fun H2 => lcW X w σ Γ F Hb1 D0 ds I (i + 1) (ds.length - (i + 1)) H2, fun H2 z => ⟨ds.length - (i + 1), by omega, z⟩, fun v H2 y => ?_⟩
    obtain ⟨Hb2, d, e2, hs2, hd, r⟩ := yld v H2 y
    have A2 : At X w (upd F D0 (.lst us)) Hb2 H2 σ Γ M' := A'.hsTo e2 hs2
    intro s0 H0 C cl fp
    refine semG_mono ((turn i d acc M' hd q s0 H0 C cl fp).run _ _ H2 Hb2 v (A2.toBlk B s0 H0 C cl fp) r) fun σ3 H3 ⟨w3, Hb3, Γ3, M3, e3, A3, q3⟩ => ⟨w3.trans (wipe_wipe _ _), ?_⟩
    -- behind the tests
    have back : ∀ {Hb4 H4 : Hp} {M4 : Mm} {Γ4 : Ga} {us4 : List V} {acc4 : List D} {s1 H5 C1 cl1 fp1} {σ4 : St}, Ex Hb2 Hb4 → At (blkX X scope s1 H5 C1 cl1 fp1) w.dry (upd F D0 (.lst us4)) Hb4 H4 σ4 Γ4 M4 → Reps X.K X.mg Hb4 us4 acc4 → acc4.length ≤ i + 1 → I (i + 1) acc4 M4 → lcW X w σ Γ F Hb1 D0 ds I (i + 1) (ds.length - (i + 1)) H4 :=
      fun {Hb4 H4 M4 Γ4 us4 acc4 s1 H5 C1 cl1 fp1 σ4} ex A4 r4 l4 q4 => ⟨rfl, hlt, Hb4, M4, acc4, us4, (e'.trans e2).trans ex, ⟨A2.wok, A2.h0.trans ex, A4.f0, A4.hs, A2.sl.mono ex⟩, r4, l4, q4⟩
    have elts : ∀ {Hb4 H4 M4}, Ex Hb2 Hb4 → At (blkX X scope s0 H0 C cl fp) w.dry (upd F D0 (.lst us)) Hb4 H4 σ3 Γ3 M4 → (∀ s0 H0 C cl fp, DE (blkX X scope s0 H0 C cl fp) w.dry elt Γ3 M4 fun r M4 => I (i + 1) (acc ++ [r]) M4) →
        semEA X scope elt σ3 H4 (fun y H5 => ∃ acc, H5 D0 = some (.lst acc) ∧ acc.length < sizeLine ∧ lcW X w σ Γ F Hb1 D0 ds I (i + 1) (ds.length - (i + 1)) (upd H5 D0 (.lst (acc ++ [y])))) := fun {Hb4 H4 M4} ex A4 q4 s1 H1' C1 cl1 fp1 => by
      refine semE_mono ((q4 s1 H1' C1 cl1 fp1).run _ σ3 H4 Hb4 (A4.blkTo s1 H1' C1 cl1 fp1)) fun y H5 ⟨Hb5, d5, M5, e5, A5, r5, q5⟩ => ?_
      have fr := (A5.hs.fr D0 _ upd_same).1
      have l := r'.length
      refine ⟨us, fr, by omega, ?_⟩
      have hs5 := A5.hs.reframe (p := D0) upd_same (.lst (us ++ [y]))
      rw [upd_upd] at hs5
      have f5 : Ex w.f0 (upd F D0 (.lst (us ++ [y]))) := A1.f0.trans (exF _)
      exact back (s1 := s1) (H5 := H1') (C1 := C1) (cl1 := cl1) (fp1 := fp1) (ex.trans e5) ⟨wok_dry, A5.h0, f5, hs5, A5.sl⟩ (((((r'.mono e2).mono ex).mono e5)).append (.cons r5 .nil)) (by rw [List.length_append]; simp; omega) q5
    have q3 : ∀ s0 H0 C cl fp, DIf (blkX X scope s0 H0 C cl fp) w.dry ifs Γ3 M3 fun t M3 =>
      (t = true → ∀ s0 H0 C cl fp, DE (blkX X scope s0 H0 C cl fp) w.dry elt Γ3 M3 fun r M4 => I (i + 1) (acc ++ [r]) M4) ∧ (t = false → I (i + 1) acc M3) := q3
    clear h turn
    rcases ifs with _ | ⟨c, _ | ⟨c2, cs⟩⟩
    · have key : ∀ Q : Bool → Hp → Prop, Q true H3 → semIfA X scope [] σ3 H3 Q := fun Q z => z
      refine key _ ?_
      rw [if_pos rfl]
      have q4 : (true = true → ∀ s0 H0 C cl fp, DE (blkX X scope s0 H0 C cl fp) w.dry elt Γ3 M3 fun r M4 => I (i + 1) (acc ++ [r]) M4) ∧ (true = false → I (i + 1) acc M3) := q3 s0 H0 C cl fp
      exact elts e3 A3 (q4.1 rfl)
    · intro s1 H1' C1 cl1 fp1
      have q4 : DT (blkX X scope s1 H1' C1 cl1 fp1) w.dry c Γ3 M3 fun t M3 =>
        (t = true → ∀ s0 H0 C cl fp, DE (blkX X scope s0 H0 C cl fp) w.dry elt Γ3 M3 fun r M4 => I (i + 1) (acc ++ [r]) M4) ∧ (t = false → I (i + 1) acc M3) := q3 s1 H1' C1 cl1 fp1
      refine semT_mono (q4.run _ σ3 H3 Hb3 (A3.blkTo s1 H1' C1 cl1 fp1)) fun t H4 ⟨Hb4, M4, e4, A4, q5, q6⟩ => ?_
      cases t with
      | true => rw [if_pos rfl]; exact elts (e3.trans e4) (A4.blkTo s0 H0 C cl fp) (q5 rfl)
      | false => rw [if_neg Bool.false_ne_true]; exact back (e3.trans e4) A4 (((r'.mono e2).mono e3).mono e4) (by omega) (q6 rfl)
    · exact (q3 s0 H0 C cl fp).elim
  · have e : i = ds.length := by omega
    subst e
    obtain ⟨hs', ex'⟩ := A'.hs.thaw hF
    exact .inl ⟨(it _ _ Hb' H' M' e' A'.hs).2 (Nat.le_refl _), _, _, M', (e1.trans e').trans ex', ⟨A'.wok, A'.h0.trans ex', A1.f0, hs', A'.sl.mono ex'⟩, .lst upd_same (r'.mono ex'), fin acc M' q⟩
theorem de_lc {ifs : List Expr} (S : Sc X k n) (ok : BlkOk X.N X.env.scope scope own) (B : BlkG X.N (relS scope X.env.scope) own Γ Γb) (hs : ∀ x, foldedSetIterable iter X.env x = pure x) (h : LcD X w tg iter elt ifs scope own Γ Γb M Q) :
    DE X w (.ListComp elt [⟨tg, iter, ifs, 0⟩] scope pos) Γ M Q := .mk fun F σ H Hb A =>
  semE_of (pe_lc S.calm S.nd semIt_ok ok semGA_ok semIfA_ok semEA_ok hs) (lc_reading A B h)
/-- y = [..] on one line -/
theorem ds_setLc {ifs : List Expr} {y : Str} {i : Nat} {py spos : Pos} {rest : List Stmt} {P : Po} (S : Sc X k n) {o : Option D} (hm : (y, i, o) ∈ Γ) (hyl : X.env.scope.names.lookup y = some .local)
    (hsw : swapsWith (.ListComp elt [⟨tg, iter, ifs, 0⟩] scope pos) (some (.Name y py)) spos.line X.env = pure true) (ok : BlkOk X.N X.env.scope scope own) (B : BlkG X.N (relS scope X.env.scope) own Γ Γb) (hs : ∀ x, foldedSetIterable iter X.env x = pure x)
    (h : LcD X w tg iter elt ifs scope own Γ Γb M fun d M1 => ∃ Γ', Put Γ y d Γ' i ∧ DS X w rest Γ' M1 P) :
    DS X w (.Assign [.Name y py] (.ListComp elt [⟨tg, iter, ifs, 0⟩] scope pos) spos :: rest) Γ M P := .mk fun F σ H Hb A => by
  refine ds_seq (ps_setLc (i := i) S.calm S.nd (A.sl.nm _ hm).1 hyl hsw semIt_ok ok semGA_ok semIfA_ok semEA_ok hs) ?_
  have q := lc_reading A B h
  refine semIt_mono q fun J H1 q2 => fun D0 hD => ?_
  obtain ⟨W, w0, ws⟩ := q2 D0 hD
  refine ⟨W, w0, fun i m H' z => ?_⟩
  rcases ws i m H' z with ⟨st, ⟨Hb', d', M', e', A', r', Γ', hp, q'⟩⟩ | z
  · exact .inl ⟨st, semB_back e' (q'.run F _ H' Hb' (A'.put hp r'))⟩
  · exact .inr z
end
end L3
namespace L3
open PySem PySem.Spec PyProof.Rows L2

/-! ### 19. What a def promises, over data -/
abbrev SpD := List D → Mm → (D → Mm → Prop) → (Str → List (Str × D) → Mm → Prop) → Prop
def spD (K : PySem.W.Frag) (mg : Str → Option Value) (S : SpD) : Sp := fun vs H Q E => ∃ (F Hb : Hp) (ds : List D) (M : Mm) (Qd : D → Mm → Prop) (Ed : Str → List (Str × D) → Mm → Prop), Hs K mg F Hb H M ∧ Reps K mg Hb vs ds ∧ S ds M Qd Ed ∧
  (∀ v H' Hb' d M', Qd d M' → Ex Hb Hb' → Hs K mg F Hb' H' M' → Rep K mg Hb' v d → Q v H') ∧
  ∀ c fs dd ws H' Hb' M', Ed c fs M' → Ex Hb Hb' → Hs K mg F Hb' H' M' → H' dd = some (.xd ws) → RepF K mg Hb' ws fs → E (.ref (ca mg c)) (some dd) H'
/-- a call's form: n values by place, the keywords ks; where each further parameter's value stands among the keywords' -/
structure KwF where
  n : Nat
  ks : List Str
  perm : List Nat
def KB (fd : FuncData) (ps : List Str) (f : KwF) : Prop := ∀ us ws : List Value, us.length = f.n → ws.length = f.ks.length → bindArgs fd ⟨us, f.ks.zip ws⟩ = pure (ps.zip (us ++ f.perm.map fun j => ws.getD j .none))
/-- the def x of the module promises S, by at most the level k -/
structure FnD (P : Program) (w : World) (K : PySem.W.Frag) (mg : Str → Option Value) (base : Heap) (k : Nat) (x : Str) (ps : List Str) (KW : List KwF) (S : SpD) : Prop where
  gm : mg x = some (.ref (ca mg x))
  kp : PySem.W.keepIn K (.ref (ca mg x)) = true
  ex : ∃ fd, FnOk P w K mg base (L2.CX P w) k (ca mg x) fd ps (spD K mg S) ∧ Binds K fd ps [] ∧ ∀ f ∈ KW, KB fd ps f
theorem FnD.mono {P w K mg base k k' x ps KW S} (F : FnD P w K mg base k x ps KW S) (h : k ≤ k') : FnD P w K mg base k' x ps KW S := ⟨F.gm, F.kp, let ⟨fd, f, b⟩ := F.ex; ⟨fd, f.mono h, b⟩⟩
section
variable {P : Program} {W : World} {K : PySem.W.Frag} {mg : Str → Option Value} {base : Heap}
/-- the context of a def's body -/
abbrev cxD (P : Program) (W : World) (K : PySem.W.Frag) (mg : Str → Option Value) (base : Heap) (N : List Str) (qual : Str) (st : Stmt) (f : Addr) (cdv : Value) (A : Around) (outer : List Env) (s : Shared) (H : Hp) (E : XK) : Cx :=
  cxOf (L2.CX P W) P W K mg base N qual (defScope st) f cdv A outer s H E
/-- a scope as a body wants it: the names vis visible, n's names as they are told -/
def isK (sc : Scope) (x : Str) (l c f g : Bool) : Bool := match sc.names.lookup x with
  | some .local => l
  | some .cell => c
  | some .free => f
  | some .globalImplicit => g
  | _ => false
def scB (vis : List Str) (sc : Scope) (n : Nm) : Bool :=
  vis.all (fun x => okN x && isK sc x true true true false) && (n.locs.all (fun x => isK sc x true true false false) && (n.lcl.all (fun x => isK sc x true false false false) &&
  (n.cel.all (fun x => isK sc x false true false false) && (n.glb.all (fun x => okN x && isK sc x false false false true) && decide (sc.kind = .function)))))
theorem isK_l {sc : Scope} {x : Str} (h : isK sc x true false false false = true) : sc.names.lookup x = some .local := by
  unfold isK at h; split at h <;> first | exact (Bool.false_ne_true h).elim | assumption
theorem isK_c {sc : Scope} {x : Str} (h : isK sc x false true false false = true) : sc.names.lookup x = some .cell := by
  unfold isK at h; split at h <;> first | exact (Bool.false_ne_true h).elim | assumption
theorem isK_g {sc : Scope} {x : Str} (h : isK sc x false false false true = true) : sc.names.lookup x = some .globalImplicit := by
  unfold isK at h; split at h <;> first | exact (Bool.false_ne_true h).elim | assumption
theorem isK_lc {sc : Scope} {x : Str} (h : isK sc x true true false false = true) : L2.Loc sc x := by
  unfold isK at h; unfold L2.Loc; split at h <;> first | exact (Bool.false_ne_true h).elim | exact .inl (by assumption) | exact .inr (by assumption)
theorem isK_v {sc : Scope} {x : Str} (h : isK sc x true true true false = true) : Vis sc x := by
  unfold isK at h; unfold Vis; split at h <;> first | exact (Bool.false_ne_true h).elim | exact .inl (by assumption) | exact .inr (.inl (by assumption)) | exact .inr (.inr (by assumption))
structure ScB (vis : List Str) (sc : Scope) (n : Nm) : Prop where
  vis : ∀ x ∈ vis, Vis sc x ∧ okN x = true
  loc : ∀ x ∈ n.locs, L2.Loc sc x
  lcl : ∀ x ∈ n.lcl, sc.names.lookup x = some .local
  cel : ∀ x ∈ n.cel, sc.names.lookup x = some .cell
  gl : ∀ x ∈ n.glb, sc.names.lookup x = some .globalImplicit ∧ okN x = true
  kd : sc.kind = .function
theorem scB_of {vis : List Str} {sc : Scope} {n : Nm} (h : scB vis sc n = true) : ScB vis sc n := by
  unfold scB at h
  simp only [Bool.and_eq_true, List.all_eq_true, decide_eq_true_eq] at h
  obtain ⟨h1, h2, h3, h4, h5, h6⟩ := h
  exact ⟨fun x hx => ⟨isK_v (h1 x hx).2, (h1 x hx).1⟩, fun x hx => isK_lc (h2 x hx), fun x hx => isK_l (h3 x hx), fun x hx => isK_c (h4 x hx), fun x hx => ⟨isK_g (h5 x hx).2, (h5 x hx).1⟩, h6⟩
theorem fm_congr {α β : Type} {f g : α → Option β} : ∀ {l : List α}, (∀ a ∈ l, f a = g a) → l.filterMap f = l.filterMap g
  | [], _ => rfl
  | a :: l, h => by
    rw [List.filterMap_cons, List.filterMap_cons, h a List.mem_cons_self, fm_congr fun b hb => h b (List.mem_cons_of_mem _ hb)]
theorem zip_lookup {names : List Str} (nd : names.Nodup) : ∀ {us : List Value}, us.length = names.length → (names.filterMap fun n => ((names.zip us).lookup n).map fun v => (n, v)) = names.zip us := by
  induction names with
  | nil => intro us h; rfl
  | cons x xs ih =>
    intro us h
    cases us with
    | nil => simp at h
    | cons u us =>
      rw [List.nodup_cons] at nd
      have e : ∀ n ∈ xs, ((x :: xs).zip (u :: us)).lookup n = (xs.zip us).lookup n := fun n hn => by
        have : (n == x) = false := by
          have q : n ≠ x := fun z => nd.1 (by rw [← z]; exact hn)
          simpa using q
        simp [List.lookup_cons, this]
      have e1 : ((x :: xs).zip (u :: us)).lookup x = some u := by simp
      have e2 := fm_congr (l := xs) (f := fun n => (((x :: xs).zip (u :: us)).lookup n).map fun v => (n, v)) (g := fun n => ((xs.zip us).lookup n).map fun v => (n, v)) fun n hn => by rw [e n hn]
      rw [List.filterMap_cons, e1, e2, ih nd.2 (by simpa using h)]
      rfl
theorem zip_all {names : List Str} (nd : names.Nodup) {us : List Value} (h : us.length = names.length) : ∀ n ∈ names, ((names.zip us).lookup n).isNone = false := by
  induction names generalizing us with
  | nil => intro n hn; cases hn
  | cons x xs ih =>
    intro n hn
    cases us with
    | nil => simp at h
    | cons u us =>
      rw [List.nodup_cons] at nd
      by_cases e : n = x
      · subst e; simp
      · have e' : (n == x) = false := by simpa using e
        have hn' : n ∈ xs := by rcases List.mem_cons.mp hn with z | z; exact absurd z e; exact z
        simp only [List.zip_cons_cons, List.lookup_cons, e']
        exact ih nd.2 (by simpa using h) n hn'
theorem bind_pos {fd : FuncData} {ps : List Str} (h1 : fd.params.posonlyargs = []) (h2 : fd.params.args.map (·.arg) = ps) (h3 : fd.params.kwonlyargs = []) (h4 : fd.params.vararg = none) (h5 : fd.params.kwarg = none) (hd : fd.defaults = .none) (nd : ps.Nodup)
    (us : List Value) (hl : us.length = ps.length) : bindArgs fd ⟨us, []⟩ = pure (ps.zip us) := by
  unfold bindArgs
  simp only [h1, h2, h3, h4, h5, hd, List.map_nil, List.nil_append, List.append_nil]
  rw [List.forIn_nil]
  have hs : seqItems? Value.none = pure none := rfl
  have m : (List.filter (fun n => (List.lookup n (ps.zip us)).isNone) ps) = [] := by
    rw [List.filter_eq_nil_iff]
    intro n hn
    rw [zip_all nd hl n hn]
    exact Bool.false_ne_true
  have l1 : (decide (us.length > ps.length) && Option.isNone (none : Option PySem.Arg)) = false := by
    rw [decide_eq_false (by omega), Bool.false_and]
  simp only [pure_bind, hs, Option.getD_none, List.toList_toArray, List.length_nil, Nat.zero_sub, List.drop_nil, Nat.sub_zero, List.take_length, m, List.isEmpty_nil, Bool.not_true, l1, List.drop_length, List.zip_nil_left, List.forIn_nil]
  simp only [if_neg Bool.false_ne_true]
  show pure _ = _
  congr 1
  exact zip_lookup nd hl
/-- all that is asked of a def's text -/
def defB (N C ps : List Str) (st : Stmt) (n : Nm) : Bool :=
  decide ((defScope st).isCoroutine = false) && (decide ((defScope st).isGenerator = false) && (decide (N ++ C).Nodup && (decide ((N ++ C).take ps.length = ps) && ((ps.all fun x => isK (defScope st) x true true false false) && ((defScope st).names.all (fun y => decide (y.2 ≠ .free)) && (scB N (defScope st) n && (decide (ps.length ≤ N.length) &&
  ((defArgs st).posonlyargs.isEmpty && (decide ((defArgs st).args.map (·.arg) = ps) && ((defArgs st).kwonlyargs.isEmpty && ((defArgs st).vararg.isNone && ((defArgs st).kwarg.isNone && decide ps.Nodup))))))))))))
structure DefB (N C ps : List Str) (st : Stmt) (n : Nm) : Prop where
  sc : FnScope (N ++ C) ps (defScope st)
  sb : ScB N (defScope st) n
  len : ps.length ≤ N.length
  p1 : (defArgs st).posonlyargs = []
  p2 : (defArgs st).args.map (·.arg) = ps
  p3 : (defArgs st).kwonlyargs = []
  p4 : (defArgs st).vararg = none
  p5 : (defArgs st).kwarg = none
  nd : ps.Nodup
theorem defB_of {N C ps : List Str} {st : Stmt} {n : Nm} (h : defB N C ps st n = true) : DefB N C ps st n := by
  unfold defB at h
  simp only [Bool.and_eq_true, decide_eq_true_eq, List.all_eq_true, List.isEmpty_iff, Option.isNone_iff_eq_none] at h
  obtain ⟨h1, h2, h3, h4, h5, h6, h7, h8, q1, q2, q3, q4, q5, q6⟩ := h
  have sb := scB_of h7
  exact ⟨⟨sb.kd, h1, h2, h3, h4, fun x hx => isK_lc (h5 x hx), h6⟩, sb, h8, q1, q2, q3, q4, q5, q6⟩
theorem DefB.binds {N C ps : List Str} {st : Stmt} {n : Nm} (d : DefB N C ps st n) {x qual : Str} {f : Addr} {fd : FuncData} (F : Fun K x qual st f fd) : Binds K fd ps [] :=
  F.binds fun _ _ _ _ _ _ us hl => bind_pos d.p1 d.p2 d.p3 d.p4 d.p5 rfl d.nd us hl
/-- THE RULE for a def: its body, walked over data -/
theorem fnOk_of {x qual : Str} {st : Stmt} {fd : FuncData} (N C ps : List Str) (n : Nm) {k : Nat} {S : SpD} (gm : mg x = some (.ref (ca mg x))) (F : Fun K x qual st (ca mg x) fd) (chk : defB N C ps st n = true) (hbt : ∀ x ∈ n.bts, mg x = none)
    (len : ∀ ds M Q E, S ds M Q E → ds.length = ps.length)
    (body : ∀ (X : Cx) (w : Wi) (ds : List D) (M : Mm) (Q : D → Mm → Prop) (E : Str → List (Str × D) → Mm → Prop), X.prog = P → X.w = W → X.K = K → X.mg = mg → X.base = base → X.N = N ++ C → X.env.scope = defScope st → Sc X k n → S ds M Q E → (w.ed = fun _ c fs M' => E c fs M') →
      DS X w (defBody st) (mkG 0 N ds) M { nx := fun _ M' => Q .non M', rt := Q }) : FnOk P W K mg base (L2.CX P W) (k + 1) (ca mg x) fd ps (spD K mg S) := by
  have dd := defB_of chk
  have Sc0 := dd.sc
  have sb' := dd.sb
  have hps := dd.len
  refine F.okX Sc0 (fun vs H Q E ⟨_, _, ds, _, _, _, _, r, q, _, _⟩ => by rw [r.length]; exact len _ _ _ _ q) (fun cdv A outer s H vs Q E hr hsp => ?_)
  obtain ⟨F0, Hb, ds, M, Qd, Ed, hs, r, q, hQ, hE⟩ := hsp
  refine ⟨semB _ _, semB_ok, ?_⟩
  have sc : Sc (cxD P W K mg base (N ++ C) qual st (ca mg x) cdv A outer s H E) k n :=
    ⟨Sc0.nd, rfl, passes_of rfl, hr, sb'.kd, fun y hy => ⟨sb'.loc y hy, .inl rfl⟩, sb'.lcl, sb'.cel, fun y hy => sb'.gl y hy, hbt⟩
  have b := body (cxD P W K mg base (N ++ C) qual st (ca mg x) cdv A outer s H E) ⟨Hb, F0, fun _ c fs M' => Ed c fs M'⟩ ds M Qd Ed rfl rfl rfl rfl rfl rfl rfl sc q rfl
  have dl := len _ _ _ _ q
  have wok : WOk (cxD P W K mg base (N ++ C) qual st (ca mg x) cdv A outer s H E) ⟨Hb, F0, fun _ c fs M' => Ed c fs M'⟩ := by
    refine (takes_of rfl rfl rfl rfl : Takes _ (fun cls d _ H => E cls d H)).imp fun cls d σ H' z => ?_
    obtain ⟨c, fs, dd, ws, F', Hb', Γ', M', h1, h2, h3, h4, h5, h6, h7, h8, h9⟩ := z
    subst h1 h2
    exact hE c fs dd ws H' Hb' M' h9 h5 (h7.less h6) h3 h4
  have at0 : At (cxD P W K mg base (N ++ C) qual st (ca mg x) cdv A outer s H E) ⟨Hb, F0, fun _ c fs M' => Ed c fs M'⟩ F0 Hb H (L2.start (N ++ C) vs) (mkG 0 N ds) M :=
    ⟨wok, Ex.refl _, Ex.refl _, hs, Slots.start r (by show ds.length ≤ N.length; omega) sb'.vis⟩
  exact semB_mono (b.run F0 _ H Hb at0) (fun σ' H' ⟨Hb', Γ', M', e', A', q'⟩ => hQ .non H' Hb' .non M' q' e' A'.hs .non) (fun v H' ⟨Hb', d, M', e', h', r', q'⟩ => hQ v H' Hb' d M' q' e' h' r') (fun _ _ ⟨_, _, _, _, _, z⟩ => z.elim) (fun _ _ ⟨_, _, _, _, _, z⟩ => z.elim)
theorem fnD_of {x qual : Str} {st : Stmt} {fd : FuncData} (N C ps : List Str) (n : Nm) {k : Nat} {S : SpD} (gm : mg x = some (.ref (ca mg x))) (F : Fun K x qual st (ca mg x) fd) (chk : defB N C ps st n = true) (hbt : ∀ x ∈ n.bts, mg x = none)
    {KW : List KwF} (kb : ∀ f ∈ KW, KB fd ps f)
    (len : ∀ ds M Q E, S ds M Q E → ds.length = ps.length)
    (body : ∀ (X : Cx) (w : Wi) (ds : List D) (M : Mm) (Q : D → Mm → Prop) (E : Str → List (Str × D) → Mm → Prop), X.prog = P → X.w = W → X.K = K → X.mg = mg → X.base = base → X.N = N ++ C → X.env.scope = defScope st → Sc X k n → S ds M Q E → (w.ed = fun _ c fs M' => E c fs M') →
      DS X w (defBody st) (mkG 0 N ds) M { nx := fun _ M' => Q .non M', rt := Q }) : FnD P W K mg base (k + 1) x ps KW S :=
  ⟨gm, F.kp, fd, fnOk_of N C ps n gm F chk hbt len body, (defB_of chk).binds F, kb⟩
end
section
variable {X : Cx} {w : Wi} {Γ Γ' : Ga} {M : Mm} {Q : D → Mm → Prop} {x : Str} {i : Nat} {d : D} {a b c e tg iter elt : Expr} {es rest' : List Expr} {pos p : Pos} {k k0 : Nat} {n : Nm} {ps : List Str} {KW : List KwF} {S : SpD}
theorem run_spD {F Hb H : Hp} {σ : St} {vs : List V} {ds : List D} {H0 : Hp} (A : At X w F Hb H σ Γ M) (e0 : Ex H0 Hb) (r : Reps X.K X.mg Hb vs ds) (q : S ds M Q fun c fs M' => w.ed Γ c fs M') :
    spD X.K X.mg S vs H (PostE X w F H0 σ Γ Q) (WE (LiftX X w) σ) :=
  ⟨F, Hb, ds, M, Q, fun c fs M' => w.ed Γ c fs M', A.hs, r, q, fun v H' Hb' d M' hq e' h' r' => ⟨Hb', d, M', e0.trans e', A.hsTo e' h', r', hq⟩,
    fun c fs dd ws H' Hb' M' hq e' h' h3 h4 => ⟨c, fs, dd, ws, F, Hb', Γ, M', rfl, rfl, h3, h4, A.h0.trans e', A.f0, h', A.sl.mono e', hq⟩⟩
/-- f(e, ..) -/
theorem de_call (Sx : Sc X k0 n) (C : FnD X.prog X.w X.K X.mg X.base k x ps KW S) (hk : k ≤ k0) (hx : x ∈ n.glb) (he : starEach (e :: es) X.env = (false, eval e X.env) :: starEach es X.env) (hpl : (backTo pos (starEach es X.env)).any (·.1) = false)
    (h : DA X w (e :: es) Γ M fun ds M1 => S ds M1 Q fun c fs M' => w.ed Γ c fs M') : DE X w (.Call (.Name x p) (e :: es) [] pos) Γ M Q := .mk fun F σ H Hb A => by
  obtain ⟨fd, f, b, _⟩ := C.ex
  refine semE_of (pe_callS f (Sx.room.mono hk) (Sx.gl x hx).1 C.gm C.kp b (fun σ => passAt A.wok σ) semA_ok (okN_d (Sx.gl x hx).2) he hpl) ?_
  exact semA_mono (h.run F σ H Hb A) fun vs H1 ⟨Hb1, ds, M1, e1, A1, r1, q1⟩ => run_spD A1 e1 r1 q1
/-- f() -/
theorem de_call0 (Sx : Sc X k0 n) (C : FnD X.prog X.w X.K X.mg X.base k x ps KW S) (hk : k ≤ k0) (hx : x ∈ n.glb) (h : S [] M Q fun c fs M' => w.ed Γ c fs M') : DE X w (.Call (.Name x p) [] [] pos) Γ M Q := .mk fun F σ H Hb A => by
  obtain ⟨fd, f, b, _⟩ := C.ex
  refine semE_of (t := fun σ H Q => spD X.K X.mg S [] H Q (WE (LiftX X w) σ)) ⟨fun pins s σ H Q I h => ?_⟩ (run_spD A (Ex.refl _) .nil h)
  refine wpAny_Call_Name_kw (ld_glob I (Sx.gl x hx).1 C.gm ?_ (okN_d (Sx.gl x hx).2))
  exact PySem.W.callWith_K0 I.kIn C.kp (run_fnS (us := []) (E := fun σ => WE (LiftX X w) σ) f (Sx.room.mono hk) b (passAt A.wok σ) I .nil h)
/-- keyword arguments -/
def semK (X : Cx) (kws : List Keyword) : TA := fun σ H Q => ∀ pos pins s, Inv X pins σ H s → wpAny (model X.prog X.w) X.A (evalAll ((backToKw pos (keywordEach kws X.env)).map (·.2))) (AP X pins σ Q) X.xe s
structure DK (X : Cx) (w : Wi) (kws : List Keyword) (Γ : Ga) (M : Mm) (Q : List D → Mm → Prop) : Prop where
  run : ∀ F σ H Hb, At X w F Hb H σ Γ M → semK X kws σ H (PostA X w F Hb σ Γ Q)
theorem semK_ok {kws : List Keyword} : PK X kws (semK X kws) := ⟨fun pos pins s σ H Q I h => h pos pins s I⟩
theorem semK_of {kws : List Keyword} {t : TA} {σ : St} {H : Hp} {Q : List V → Hp → Prop} (h : PK X kws t) (q : t σ H Q) : semK X kws σ H Q := fun pos pins s I => h.run pos pins s σ H Q I q
theorem semK_mono {kws : List Keyword} {σ : St} {H : Hp} {Q Q' : List V → Hp → Prop} (h : semK X kws σ H Q) (hq : ∀ v H', Q v H' → Q' v H') : semK X kws σ H Q' := fun pos pins s I =>
  thn (h pos pins s I) fun _ _ ⟨v, H', I', r, q⟩ => ⟨v, H', I', r, hq v H' q⟩
theorem dk_nil {Q : List D → Mm → Prop} (q : Q [] M) : DK X w [] Γ M Q := .mk fun F σ H Hb A => semK_of pk_nil ⟨Hb, [], M, Ex.refl _, A, .nil, q⟩
theorem dk_cons {Q : List D → Mm → Prop} {nm kpos} {kws : List Keyword} (h : DE X w e Γ M fun d M1 => DK X w kws Γ M1 fun ds M2 => Q (d :: ds) M2) : DK X w (⟨nm, e, kpos⟩ :: kws) Γ M Q := .mk fun F σ H Hb A => by
  refine semK_of (pk_cons semE_ok semK_ok) (semE_mono (h.run F σ H Hb A) fun v H1 ⟨Hb1, d1, M1, e1, A1, r1, q1⟩ => ?_)
  exact semK_mono (q1.run F σ H1 Hb1 A1) fun vs H2 ⟨Hb2, ds, M2, e2, A2, r2, q2⟩ => ⟨Hb2, d1 :: ds, M2, e1.trans e2, A2, .cons (r1.mono e2) r2, q2⟩
theorem reps_perm {Hb : Hp} {zs : List V} {ds : List D} {us : List Value} (r : Reps X.K X.mg Hb zs ds) (rv : Vals zs us) : ∀ {perm : List Nat}, (∀ j ∈ perm, j < ds.length) → Vals (perm.map fun j => zs.getD j .non) (perm.map fun j => us.getD j .none) ∧ Reps X.K X.mg Hb (perm.map fun j => zs.getD j .non) (perm.map fun j => ds.getD j .non)
  | [], _ => ⟨.nil, .nil⟩
  | j :: perm, h => by
    obtain ⟨h1, h2⟩ := reps_perm r rv (perm := perm) fun z hz => h z (List.mem_cons_of_mem _ hz)
    have l := h j List.mem_cons_self
    obtain ⟨v, e1, e2⟩ := r.get (List.getElem?_eq_getElem l)
    obtain ⟨u, e3, e4⟩ := rv.get e1
    refine ⟨.cons ?_ h1, .cons ?_ h2⟩
    · show RelV (zs.getD j V.non) (us.getD j Value.none)
      rw [List.getD_eq_getElem?_getD, List.getD_eq_getElem?_getD, e1, e3]; exact e4
    · show Rep X.K X.mg Hb (zs.getD j V.non) (ds.getD j D.non)
      rw [List.getD_eq_getElem?_getD, List.getD_eq_getElem?_getD, e1, List.getElem?_eq_getElem l]; exact e2
/-- f(e, .., k = v, ..) -/
theorem run_kw {pins : List (Addr × Obj)} {σ : St} {H : Hp} {s : Shared} {Q : VK} {fd : FuncData} {sp : Sp} {f : Addr} {E : XK} {us ws : List Value} {vs zs : List V} {kf : KwF} (F : FnOk X.prog X.w X.K X.mg X.base (L2.CX X.prog X.w) k f fd ps sp) (hr : Room k X.A) (hb : KB fd ps kf) (hx : PassesAt (L2.CX X.prog X.w) X σ E)
    (I : Inv X pins σ H s) (l1 : us.length = kf.n) (l2 : ws.length = kf.ks.length) (r : Vals (vs ++ kf.perm.map fun j => zs.getD j .non) (us ++ kf.perm.map fun j => ws.getD j .none)) (h : sp (vs ++ kf.perm.map fun j => zs.getD j .non) H Q E) : wpAny (model X.prog X.w) X.A (call (.ref f) us (kf.ks.zip ws)) (EP X pins σ Q) X.xe s := by
  refine wpAny_call (codeAny_mono (F.run X.A X.stack s H ⟨us, kf.ks.zip ws⟩ _ _ Q E hr I.env0 (.of_eq (hb us ws l1 l2)) r h) fun r s' hq => ?_)
  cases r with
  | error e => exact hx pins H s e s' I hq
  | ok fl =>
    cases fl with
    | ret u => exact I.after hq
    | next => exact False.elim hq
    | brk => exact False.elim hq
    | cont => exact False.elim hq
/-- f(k = v, ..): keywords alone -/
theorem de_callK0 {kws : List Keyword} {kf : KwF} (Sx : Sc X k0 n) (C : FnD X.prog X.w X.K X.mg X.base k x ps KW S) (hk : k ≤ k0) (hx : x ∈ n.glb) (hkf : kf ∈ KW) (hn : kf.n = 0) (hp : ∀ j ∈ kf.perm, j < kf.ks.length)
    (hall : (backToKw pos (keywordEach kws X.env)).all (·.1.isSome) = true) (hks : (backToKw pos (keywordEach kws X.env)).filterMap (·.1) = kf.ks)
    (hpl : ((backTo pos (starEach [] X.env)).any (·.1) || (backToKw pos (keywordEach kws X.env)).any (·.1.isNone)) = false)
    (h : DK X w kws Γ M fun ds M1 => ds.length = kf.ks.length ∧ S (kf.perm.map fun j => ds.getD j .non) M1 Q fun c fs M' => w.ed Γ c fs M') : DE X w (.Call (.Name x p) [] kws pos) Γ M Q := .mk fun F σ H Hb A => by
  obtain ⟨fd, f, _, b⟩ := C.ex
  have q := h.run F σ H Hb A
  intro pins s I
  refine wpAny_Call_Name_kw (ld_glob I (Sx.gl x hx).1 C.gm ?_ (okN_d (Sx.gl x hx).2))
  refine PySem.W.callWith_KW0 (h₀ := X.base) I.ok.mod.kin C.kp hall (thn (q pos pins s I) fun ws s2 ⟨zs, H2, I2, rz, Hb2, ds, M2, e2, A2, r2, l, q2⟩ => ⟨I2.kIn, ?_⟩) hpl
  rw [hks]
  have l2 : ws.length = kf.ks.length := by rw [← rz.length, r2.length]; exact l
  obtain ⟨v1, v2⟩ := reps_perm r2 rz (perm := kf.perm) fun j hj => by rw [l]; exact hp j hj
  exact run_kw (us := []) (vs := []) f (Sx.room.mono hk) (b kf hkf) (passAt A.wok σ) I2 hn.symm l2 v1 (run_spD A2 e2 v2 q2)
/-- f(e, .., k = v, ..) -/
theorem de_callK {kws : List Keyword} {kf : KwF} (Sx : Sc X k0 n) (C : FnD X.prog X.w X.K X.mg X.base k x ps KW S) (hk : k ≤ k0) (hx : x ∈ n.glb) (hkf : kf ∈ KW) (hp : ∀ j ∈ kf.perm, j < kf.ks.length)
    (hall : (backToKw pos (keywordEach kws X.env)).all (·.1.isSome) = true) (hks : (backToKw pos (keywordEach kws X.env)).filterMap (·.1) = kf.ks)
    (he : starEach (e :: es) X.env = (false, eval e X.env) :: starEach es X.env) (hpl : ((backTo pos (starEach (e :: es) X.env)).any (·.1) || (backToKw pos (keywordEach kws X.env)).any (·.1.isNone)) = false)
    (h : DA X w (e :: es) Γ M fun as M0 => as.length = kf.n ∧ DK X w kws Γ M0 fun ds M1 => ds.length = kf.ks.length ∧ S (as ++ kf.perm.map fun j => ds.getD j .non) M1 Q fun c fs M' => w.ed Γ c fs M') : DE X w (.Call (.Name x p) (e :: es) kws pos) Γ M Q := .mk fun F σ H Hb A => by
  obtain ⟨fd, f, _, b⟩ := C.ex
  have q := h.run F σ H Hb A
  intro pins s I
  refine wpAny_Call_Name_kw (ld_glob I (Sx.gl x hx).1 C.gm ?_ (okN_d (Sx.gl x hx).2))
  refine PySem.W.callWith_KW (h₀ := X.base) I.ok.mod.kin C.kp hall (thn (q pos pins s I) fun us s1 ⟨vs, H1, I1, rv, Hb1, as, M1, e1, A1, r1, l0, q1⟩ => ?_) hpl he
  refine thn (q1.run F σ H1 Hb1 A1 pos pins s1 I1) fun ws s2 ⟨zs, H2, I2, rz, Hb2, ds, M2, e2, A2, r2, l, q2⟩ => ⟨I2.kIn, ?_⟩
  rw [hks]
  have l1 : us.length = kf.n := by rw [← rv.length, r1.length]; exact l0
  have l2 : ws.length = kf.ks.length := by rw [← rz.length, r2.length]; exact l
  obtain ⟨v1, v2⟩ := reps_perm r2 rz (perm := kf.perm) fun j hj => by rw [l]; exact hp j hj
  exact run_kw f (Sx.room.mono hk) (b kf hkf) (passAt A.wok σ) I2 l1 l2 (rv.append v1) (run_spD A2 (e1.trans e2) ((r1.mono e2).append v2) q2)
end
end L3
namespace L3
open PySem PySem.Spec PyProof.Rows L2
section
variable {X : Cx} {w : Wi} {Γ Γ' : Ga} {M : Mm} {Q : D → Mm → Prop} {x : Str} {i : Nat} {d : D} {a b c e o tg iter elt : Expr} {es rest' : List Expr} {pos p p2 : Pos} {k k0 : Nat} {n : Nm} {ps : List Str} {S : SpD}

/-! ### 20. Slices -/
def cutD (xs : List D) (lo hi : Option Int) : List D := (xs.drop (HT.sIx xs.length 0 lo)).take (HT.sIx xs.length xs.length hi - HT.sIx xs.length 0 lo)
theorem Reps.cut {K : PySem.W.Frag} {mg : Str → Option Value} {Hb : Hp} {vs : List V} {ds : List D} (r : Reps K mg Hb vs ds) (lo hi : Option Int) : Reps K mg Hb (cutV vs lo hi) (cutD ds lo hi) := by
  unfold cutV cutD; rw [r.length]; exact (r.drop _).take _
def DO (X : Cx) (w : Wi) (e : Option Expr) (Γ : Ga) (M : Mm) (Q : Option Int → Mm → Prop) : Prop := match e with
  | none => Q none M
  | some e => DE X w e Γ M fun d M1 => ∃ i, d = .int i ∧ Q (some i) M1
def semSO (X : Cx) (e : Option Expr) : TO := fun σ H Q => match e with
  | none => Q none H
  | some e => semE X e σ H fun v H' => ∃ i, v = .int i ∧ Q (some i) H'
theorem semSO_ok : ∀ {e : Option Expr}, PO X e (semSO X e)
  | none => po_none
  | some e => po_some semE_ok
theorem semSO_mono {e : Option Expr} {σ : St} {H : Hp} {Q Q' : Option Int → Hp → Prop} (h : semSO X e σ H Q) (hq : ∀ o H', Q o H' → Q' o H') : semSO X e σ H Q' := by
  cases e with
  | none => exact hq _ _ h
  | some e => exact semE_mono h fun v H' ⟨i, e1, q⟩ => ⟨i, e1, hq _ _ q⟩
theorem do_run {F Hb H : Hp} {σ : St} {e : Option Expr} {Q : Option Int → Mm → Prop} (A : At X w F Hb H σ Γ M) (h : DO X w e Γ M Q) : semSO X e σ H fun i H' => ∃ Hb' M', Ex Hb Hb' ∧ At X w F Hb' H' σ Γ M' ∧ Q i M' := by
  cases e with
  | none => exact ⟨Hb, M, Ex.refl _, A, h⟩
  | some e =>
    have h : DE X w e Γ M fun d M1 => ∃ i, d = .int i ∧ Q (some i) M1 := h
    exact semE_mono (h.run F σ H Hb A) fun v H' ⟨Hb', d, M', e', A', r, i, hd, q⟩ => by
      subst hd
      cases r
      exact ⟨i, rfl, Hb', M', e', A', q⟩
/-- a[lo:hi] of lists, tuples, texts -/
def pSl : D → Option Int → Option Int → Mm → (D → Mm → Prop) → Prop
  | .lst ds, lo, hi, M, Q => Q (.lst (cutD ds lo hi)) M
  | .tup ds, lo, hi, M, Q => Q (.tup (cutD ds lo hi)) M
  | .str z, lo, hi, M, Q => z.length ≤ sizeLine ∧ Q (.str (cutS z lo hi)) M
  | .ptr p, lo, hi, M, Q => ∃ ds, M p = some (.l ds) ∧ Q (.lst (cutD ds lo hi)) M
  | .scr ns, lo, hi, M, Q => Q (.lst (cutD (ns.map .int) lo hi)) M
  | _, _, _, _, _ => False
theorem de_slice {lo hi : Option Expr} (h : DE X w a Γ M fun x M1 => DO X w lo Γ M1 fun l M2 => DO X w hi Γ M2 fun u M3 => pSl x l u M3 Q) : DE X w (.Subscript a (.Slice lo hi none p2) pos) Γ M Q := .mk fun F σ H Hb A => by
  refine semE_of (pe_slice ((sl_list.or sl_tupA).or sl_str) semE_ok semSO_ok semSO_ok) ?_
  refine semE_mono (h.run F σ H Hb A) fun v H1 ⟨Hb1, d1, M1, e1, A1, r1, q1⟩ => ?_
  refine semSO_mono (do_run A1 q1) fun l H2 ⟨Hb2, M2, e2, A2, q2⟩ => ?_
  refine semSO_mono (do_run A2 q2) fun u H3 ⟨Hb3, M3, e3, A3, q3⟩ => ?_
  have r3 := (r1.mono e2).mono e3
  have ex := (e1.trans e2).trans e3
  cases r3 with
  | lst h r => exact .inl (.inl ⟨_, _, rfl, SqL.of (A3.hs.ex _ _ h), fun p hp => A3.lst ex (r.cut l u) hp q3⟩)
  | @tup _ _ ds h r =>
    have q4 : Q (.tup (cutD ds l u)) M3 := q3
    refine .inl (.inr ⟨_, _, rfl, ex_t A3.hs.ex h, fun z => A3.val ex (.tup h r) ?_, fun _ p hp => A3.tup ex (r.cut l u) hp q4⟩)
    rw [r.length] at z
    have e : cutD ds l u = ds := by
      unfold cutD
      rw [z.1, z.2, List.drop_zero, Nat.sub_zero, List.take_of_length_le (Nat.le_refl _)]
    rw [e] at q4; exact q4
  | str => exact .inr ⟨_, rfl, q3.1, A3.val ex .str q3.2⟩
  | @ptr p =>
    obtain ⟨ds, h0, q3⟩ := q3
    obtain ⟨_, vs, h, r⟩ := A3.hs.ce _ _ h0
    exact .inl (.inl ⟨_, _, rfl, SqL.of h, fun p hp => A3.lst ex (r.cut l u) hp q3⟩)
  | scr h => exact .inl (.inl ⟨_, _, rfl, ex_l A3.hs.ex h, fun p hp => A3.lst ex (of_ints.cut l u) hp q3⟩)
  | _ => exact q3.elim

/-! ### 21. Methods of built-ins -/
/-- d is of the built-in type T -/
def D.isT (T : String) (M : Mm) : D → Prop
  | .str _ => T = "str"
  | .lst _ => T = "list"
  | .ptr p => T = "list" ∧ ∃ ds, M p = some (.l ds)
  | _ => False
theorem rep_tyV {F Hb H : Hp} {σ : St} {v : V} {T : String} (A : At X w F Hb H σ Γ M) (r : Rep X.K X.mg Hb v d) (h : d.isT T M) : tyV X.K T v H := by
  cases r with
  | str => exact h
  | lst h1 _ => exact .inl ⟨h, _, SqL.of (A.hs.ex _ _ h1)⟩
  | ptr =>
    obtain ⟨h1, ds, h2⟩ := h
    obtain ⟨_, vs, h3, _⟩ := A.hs.ce _ _ h2
    exact .inl ⟨h1, _, SqL.of h3⟩
  | _ => exact h.elim
theorem de_bm {T id : String} {name : Str} {apos cpos : Pos} {pp : PPM} (pa : PlainAttrs T) (slot : Slot T name id) (hty : typeOf (.builtin id) = pure (.type "method_descriptor")) (hm : MD X T id pp)
    (hbase : attributeBase o name X.env (eval o X.env) = eval o X.env)
    (hfew : ((backTo cpos (starEach (e :: es) X.env)).all (fun x => !x.1) && (backToKw cpos (keywordEach [] X.env)).all (fun x => x.1.isSome) && decide ((e :: es).length + ([] : List Keyword).length + (if ([] : List Keyword).isEmpty then 0 else 1) < 30)) = true)
    (hline : (apos.endLine == cpos.line) = true) (hs : starEach (e :: es) X.env = (false, eval e X.env) :: starEach es X.env) (hplain : (backTo cpos (starEach es X.env)).any (·.1) = false)
    (h : DE X w o Γ M fun x M1 => x.isT T M1 ∧ DA X w (e :: es) Γ M1 fun xs M2 => pp x xs M2 Q) : DE X w (.Call (.Attribute o name apos) (e :: es) [] cpos) Γ M Q := .mk fun F σ H Hb A => by
  refine semE_of (pe_bm pa slot hty semM_ok semE_ok semA_ok hbase hfew hline hs hplain) ?_
  refine semE_mono (h.run F σ H Hb A) fun v H1 ⟨Hb1, d1, M1, e1, A1, r1, t1, q1⟩ => ⟨rep_tyV A1 r1 t1, ?_⟩
  exact semA_mono (q1.run F σ H1 Hb1 A1) fun vs H2 ⟨Hb2, ds, M2, e2, A2, r2, q2⟩ => hm w F Hb Hb2 H2 σ Γ M2 v vs d1 ds Q A2 (e1.trans e2) (r1.mono e2) r2 q2
theorem de_bm0 {T id : String} {name : Str} {apos cpos : Pos} {pp : PPM} (pa : PlainAttrs T) (slot : Slot T name id) (hty : typeOf (.builtin id) = pure (.type "method_descriptor")) (hm : MD X T id pp)
    (hbase : attributeBase o name X.env (eval o X.env) = eval o X.env) (hline : (apos.endLine == cpos.line) = true)
    (h : DE X w o Γ M fun x M1 => x.isT T M1 ∧ pp x [] M1 Q) : DE X w (.Call (.Attribute o name apos) [] [] cpos) Γ M Q := .mk fun F σ H Hb A => by
  refine semE_of (pe_bm0 pa slot hty semM_ok semE_ok hbase hline) ?_
  exact semE_mono (h.run F σ H Hb A) fun v H1 ⟨Hb1, d1, M1, e1, A1, r1, t1, q1⟩ => ⟨rep_tyV A1 r1 t1, hm w F Hb Hb1 H1 σ Γ M1 v [] d1 [] Q A1 e1 r1 .nil q1⟩
/-- l.append(d) -/
def pAppend : PPM
  | .ptr p, [d], M, Q => ∃ ds, M p = some (.l ds) ∧ ds.length < sizeLine ∧ Q .non (M.put p (.l (ds ++ [d])))
  | _, _, _, _ => False
theorem md_append : MD X "list" "list.append" pAppend := fun w F H0 Hb H σ Γ M v vs x xs Q A e rx rs q => by
  cases rx with
  | @ptr p =>
    cases rs with
    | nil => exact q.elim
    | cons r1 r2 =>
      cases r2 with
      | cons _ _ => exact q.elim
      | nil =>
        obtain ⟨ds, h0, h1, q⟩ := q
        obtain ⟨_, us, h, r⟩ := A.hs.ce _ _ h0
        exact semM_of mt_append ⟨_, us, _, rfl, rfl, h, by rw [r.length]; exact h1, Hb, .non, _, e, A.write (c := .l (ds ++ [_])) h0 ⟨_, upd_same, r.append (.cons r1 .nil)⟩, .non, q⟩
  | _ => exact q.elim
/-- sep.join(texts) -/
def pJoin : PPM
  | .str a, [d], M, Q => ∃ ys : List Str, d.seqM M = some (ys.map .str) ∧ (ys.map (·.length)).sum + ys.length * a.length ≤ 16777216 ∧ Q (.str (Txt.join a ys)) M
  | _, _, _, _ => False
theorem md_join : MD X "str" "str.join" pJoin := fun w F H0 Hb H σ Γ M v vs x xs Q A e rx rs q => by
  cases rx with
  | str =>
    cases rs with
    | nil => exact q.elim
    | cons r1 r2 =>
      cases r2 with
      | cons _ _ => exact q.elim
      | nil =>
        obtain ⟨ys, h0, h1, q⟩ := q
        obtain ⟨p, us, rfl, h, r⟩ := rep_seqM A r1 h0
        have := reps_strs r
        subst this
        exact semM_of mt_join ⟨_, p, ys, rfl, rfl, h, h1, A.val e .str q⟩
  | _ => exact q.elim

/-! ### 22. isinstance with built-in types -/
def D.tyName (M : Mm) : D → Option String
  | .non => some "NoneType"
  | .bl _ => some "bool"
  | .int _ => some "int"
  | .str _ => some "str"
  | .tup _ => some "tuple"
  | .lst _ => some "list"
  | .dK _ => some "dict"
  | .dT _ => some "dict"
  | .ptr p => match M p with
    | some (.l _) => some "list"
    | some (.k _) => some "dict"
    | some (.t _) => some "dict"
    | _ => none
  | _ => none
theorem rep_tyX {F Hb H : Hp} {σ : St} {v : V} {T : String} (A : At X w F Hb H σ Γ M) (r : Rep X.K X.mg Hb v d) (h : d.tyName M = some T) : ∀ (pins : List (Addr × Obj)) (s : Shared) (σ' : St), Inv X pins σ' H s → TyX X.K H v (.type T) := by
  intro pins s σ' I
  cases r with
  | non => cases h; exact .base .non
  | bl => cases h; exact .base (.bl _)
  | int => cases h; exact .base (.int _)
  | str => cases h; exact .base (.str _)
  | lst h1 _ => cases h; exact .base (.lst (A.hs.ex _ _ h1))
  | dK h1 _ => cases h; exact .base (.dK (A.hs.ex _ _ h1))
  | dT h1 _ => cases h; exact .base (.dT (A.hs.ex _ _ h1))
  | tup h1 _ =>
    cases h
    rcases ex_t A.hs.ex h1 with (h2 | ⟨o, h2⟩) | ⟨o, its, n, h2, h3, _⟩
    · exact .base (.tup h2)
    · exact .fTuple h2
    · exact .kTuple h2 h3
  | @ptr p =>
    have h : (match M p with | some (.l _) => some "list" | some (.k _) => some "dict" | some (.t _) => some "dict" | _ => none) = some T := h
    cases z : M p with
    | none => rw [z] at h; cases h
    | some c =>
      rw [z] at h
      have q := (A.hs.ce _ _ z).2
      cases c with
      | l _ => cases h; obtain ⟨vs, h1, _⟩ := q; exact .base (.lst h1)
      | k _ => cases h; obtain ⟨vs, h1, _⟩ := q; exact .base (.dK h1)
      | t _ => cases h; obtain ⟨vs, h1, _⟩ := q; exact .base (.dT h1)
      | o _ _ => cases h
  | ty => cases h
  | scr _ => cases h
  | obj _ _ => cases h
/-- isinstance(x, T): T a built-in type, or a tuple of such -/
def isaL (T : String) : List String → Option Bool
  | [] => some false
  | c :: cs => match kitB T c with
    | some true => some true
    | some false => isaL T cs
    | none => none
def pIsi : PPL
  | [x, .ty c], M, Q => ∃ T b, x.tyName M = some T ∧ kitB T c = some b ∧ Q (.bl b) M
  | [x, .tup cs], M, Q => ∃ T b ns, cs = ns.map D.ty ∧ x.tyName M = some T ∧ isaL T ns = some b ∧ Q (.bl b) M
  | _, _, _ => False
theorem kitAny_of {K : PySem.W.Frag} {T : String} : ∀ {ns : List String} {b : Bool}, isaL T ns = some b → PySem.W.kitAny K (.type T) (ns.map Value.type) = some b
  | [], b, h => by cases h; exact kitAny_nil
  | c :: cs, b, h => by
    unfold isaL at h
    cases z : kitB T c with
    | none => rw [z] at h; cases h
    | some t =>
      rw [z] at h
      cases t with
      | true => cases h; exact kitAny_cons (kit_ty z) (fun e => by cases e) fun _ => rfl
      | false => exact kitAny_cons (kit_ty z) (fun _ => kitAny_of h) fun e => by cases e
theorem tys_vals {K : PySem.W.Frag} {mg : Str → Option Value} {Hb : Hp} : ∀ {ns : List String} {ws : List V} {its : List Value}, Reps K mg Hb ws (ns.map D.ty) → Vals ws its → its = ns.map Value.type
  | [], _, _, .nil, .nil => rfl
  | n :: ns, _, _, .cons a b, .cons c d => by
    cases a
    rw [tys_vals b d, List.map_cons, show _ = Value.type n from c]
theorem cd_isi : CD X (.builtin "isinstance") pIsi := fun w F H0 Hb H σ Γ M vs xs Q A e rs q => by
  rcases xs with _ | ⟨x, _ | ⟨y, _ | ⟨z, zs⟩⟩⟩
  · exact q.elim
  · cases rs with | cons r t => exact q.elim
  · cases rs with
    | cons r1 r2 =>
      cases r2 with
      | cons r2 r3 =>
        cases r3
        intro pins s σ' us I rv
        obtain ⟨u1, u2, rfl, v1, v2⟩ := vals2 rv
        cases y with
        | ty c =>
          obtain ⟨T, b, h1, h2, q⟩ := q
          cases r2
          have e2 : u2 = Value.type c := v2
          subst e2
          obtain ⟨P, Z, pz, hx⟩ := kit_of I v1 (rep_tyX A r1 h1 pins s σ' I)
          exact PySem.W.kia_one Z I.kIn pz (kit_ty h2) hx fun tk => ⟨.bl b, H, I.tok tk, rfl, A.val e .bl q⟩
        | tup cs =>
          obtain ⟨T, b, ns, hc, h1, h2, q⟩ := q
          subst hc
          cases r2 with
          | tup h3 h4 =>
            rename_i tp ws
            cases (show u2 = Value.ref tp from v2)
            obtain ⟨P, Z, pz, hx⟩ := kit_of I v1 (rep_tyX A r1 h1 pins s σ' I)
            obtain ⟨its, rv', ⟨o, g1, g2, n, g3⟩, _⟩ := I.tuple (ex_t A.hs.ex h3)
            have e3 : its = ns.map Value.type := tys_vals h4 rv'
            subst e3
            obtain ⟨oc, od, dt, sl⟩ := o
            simp only at g2 g3
            subst g2 g3
            exact PySem.W.kia_tup Z I.kIn pz g1 (kitAny_of h2) hx fun tk => ⟨.bl b, H, I.tok tk, rfl, A.val e .bl q⟩
        | _ => exact q.elim
  · cases y <;> exact q.elim
/-- a built-in type by its name -/
theorem de_ty {T : String} (Sx : Sc X k n) (hx : x ∈ n.glb) (hm : X.mg x = none) (hv : bootBuiltins x = some (.type T)) (q : Q (.ty T) M) : DE X w (.Name x pos) Γ M Q := .mk fun F σ H Hb A =>
  semE_of (pe_bltn (v := .ty T) (Sx.gl x hx).1 hm hv rfl (okN_n (Sx.gl x hx).2) (okN_d (Sx.gl x hx).2)) (A.val (Ex.refl _) .ty q)
end
end L3
namespace L3
open PySem PySem.Spec PyProof.Rows L2
section
variable {X : Cx} {w : Wi} {Γ Γ' Γc : Ga} {M : Mm} {Q : D → Mm → Prop} {QT : Bool → Mm → Prop} {x : Str} {i : Nat} {d : D} {a b c e o tg iter elt : Expr} {es rest' : List Expr} {pos p p2 : Pos} {k k0 : Nat} {n : Nm} {S : SpD} {P : Po} {rest : List Stmt}

/-! ### 23. The rules, with what a context gives filled in -/
theorem Sc.u65 (S : Sc X k n) : X.A.units + 65 < cLine := by have := S.room.un; omega
theorem Sc.u64 (S : Sc X k n) : X.A.units + 64 < cLine := by have := S.room.un; omega
theorem de_eq (S : Sc X k n) (h : DE X w a Γ M fun x M1 => DE X w b Γ M1 fun y M2 => pEq x y M2 Q) : DE X w (.Compare a [.Eq] [b] pos) Γ M Q := de_cmp (od_eq S.u64) (nobehind _ (by decide) (by decide)) h
theorem de_ne (S : Sc X k n) (h : DE X w a Γ M fun x M1 => DE X w b Γ M1 fun y M2 => pNe x y M2 Q) : DE X w (.Compare a [.NotEq] [b] pos) Γ M Q := de_cmp (od_ne S.u64) (nobehind _ (by decide) (by decide)) h
theorem de_in (S : Sc X k n) (hm : behindInMarks .In b = false) (h : DE X w a Γ M fun x M1 => DE X w b Γ M1 fun y M2 => pIn false x y M2 Q) : DE X w (.Compare a [.In] [b] pos) Γ M Q := de_cmp (od_in S.u65) hm h
theorem de_notin (S : Sc X k n) (hm : behindInMarks .NotIn b = false) (h : DE X w a Γ M fun x M1 => DE X w b Γ M1 fun y M2 => pIn true x y M2 Q) : DE X w (.Compare a [.NotIn] [b] pos) Γ M Q := de_cmp (od_notin S.u65) hm h
theorem dt_eq (S : Sc X k n) (h : DE X w a Γ M fun x M1 => DE X w b Γ M1 fun y M2 => pEq x y M2 fun z M3 => ∃ c, z = .bl c ∧ QT c M3) : DT X w (.Compare a [.Eq] [b] pos) Γ M QT := dt_cmp (od_eq S.u64) (nobehind _ (by decide) (by decide)) h
theorem dt_ne (S : Sc X k n) (h : DE X w a Γ M fun x M1 => DE X w b Γ M1 fun y M2 => pNe x y M2 fun z M3 => ∃ c, z = .bl c ∧ QT c M3) : DT X w (.Compare a [.NotEq] [b] pos) Γ M QT := dt_cmp (od_ne S.u64) (nobehind _ (by decide) (by decide)) h
theorem dt_in (S : Sc X k n) (hm : behindInMarks .In b = false) (h : DE X w a Γ M fun x M1 => DE X w b Γ M1 fun y M2 => pIn false x y M2 fun z M3 => ∃ c, z = .bl c ∧ QT c M3) : DT X w (.Compare a [.In] [b] pos) Γ M QT := dt_cmp (od_in S.u65) hm h
theorem dt_notin (S : Sc X k n) (hm : behindInMarks .NotIn b = false) (h : DE X w a Γ M fun x M1 => DE X w b Γ M1 fun y M2 => pIn true x y M2 fun z M3 => ∃ c, z = .bl c ∧ QT c M3) : DT X w (.Compare a [.NotIn] [b] pos) Γ M QT := dt_cmp (od_notin S.u65) hm h
theorem nobeh {op : CmpOp} (h : op ≠ .In := by decide) (h2 : op ≠ .NotIn := by decide) : behindInMarks op b = false := nobehind _ h h2
theorem de_len (S : Sc X k n) (hs : starEach [a] X.env = [(false, eval a X.env)]) (hx : ("len" : Str) ∈ n.glb) (hb : ("len" : Str) ∈ n.bts) (h : DE X w a Γ M fun d M1 => pLen d M1 Q) : DE X w (.Call (.Name "len" p) [a] [] pos) Γ M Q :=
  de_callB S hx (S.bt _ hb) PySem.boot_len cd_len hs rfl (da_cons hs (de_imp h fun d M1 q => da_nil q))
theorem boot_all : bootBuiltins ("all" : Str) = some (.builtin "all") := by kernel_rfl
theorem boot_any : bootBuiltins ("any" : Str) = some (.builtin "any") := by kernel_rfl
theorem boot_abs' : bootBuiltins ("abs" : Str) = some (.builtin "abs") := by kernel_rfl
theorem boot_isinstance' : bootBuiltins ("isinstance" : Str) = some (.builtin "isinstance") := by kernel_rfl
theorem boot_list' : bootBuiltins ("list" : Str) = some (.type "list") := by kernel_rfl
theorem boot_tuple' : bootBuiltins ("tuple" : Str) = some (.type "tuple") := by kernel_rfl
theorem boot_int' : bootBuiltins ("int" : Str) = some (.type "int") := by kernel_rfl
theorem boot_str' : bootBuiltins ("str" : Str) = some (.type "str") := by kernel_rfl
theorem boot_bool' : bootBuiltins ("bool" : Str) = some (.type "bool") := by kernel_rfl
theorem boot_dict' : bootBuiltins ("dict" : Str) = some (.type "dict") := by kernel_rfl
theorem de_all (S : Sc X k n) (hs : starEach [a] X.env = [(false, eval a X.env)]) (hx : ("all" : Str) ∈ n.glb) (hb : ("all" : Str) ∈ n.bts) (h : DE X w a Γ M fun d M1 => ∃ bs : List Bool, d = .lst (bs.map .bl) ∧ Q (.bl (bs.all id)) M1) : DE X w (.Call (.Name "all" p) [a] [] pos) Γ M Q :=
  de_callB S hx (S.bt _ hb) boot_all (cd_all S.calm) hs rfl (da_cons hs (de_imp h fun d M1 q => da_nil q))
theorem de_any (S : Sc X k n) (hs : starEach [a] X.env = [(false, eval a X.env)]) (hx : ("any" : Str) ∈ n.glb) (hb : ("any" : Str) ∈ n.bts) (h : DE X w a Γ M fun d M1 => ∃ bs : List Bool, d = .lst (bs.map .bl) ∧ Q (.bl (bs.any id)) M1) : DE X w (.Call (.Name "any" p) [a] [] pos) Γ M Q :=
  de_callB S hx (S.bt _ hb) boot_any (cd_any S.calm) hs rfl (da_cons hs (de_imp h fun d M1 q => da_nil q))
theorem de_abs (S : Sc X k n) (hs : starEach [a] X.env = [(false, eval a X.env)]) (hx : ("abs" : Str) ∈ n.glb) (hb : ("abs" : Str) ∈ n.bts) (h : DE X w a Γ M fun d M1 => pAbs d M1 Q) : DE X w (.Call (.Name "abs" p) [a] [] pos) Γ M Q :=
  de_callB S hx (S.bt _ hb) boot_abs' cd_abs hs rfl (da_cons hs (de_imp h fun d M1 q => da_nil q))
theorem de_listC (S : Sc X k n) (hs : starEach [a] X.env = [(false, eval a X.env)]) (hx : ("list" : Str) ∈ n.glb) (hb : ("list" : Str) ∈ n.bts) (h : DE X w a Γ M fun d M1 => ∃ ds, d.seqM M1 = some ds ∧ Q (.lst ds) M1) : DE X w (.Call (.Name "list" p) [a] [] pos) Γ M Q :=
  de_callT S hx (S.bt _ hb) boot_list' cd_list hs rfl (da_cons hs (de_imp h fun d M1 q => da_nil q))
theorem de_tupC (S : Sc X k n) (hs : starEach [a] X.env = [(false, eval a X.env)]) (hx : ("tuple" : Str) ∈ n.glb) (hb : ("tuple" : Str) ∈ n.bts) (h : DE X w a Γ M fun d M1 => ∃ ds, d.seqM M1 = some ds ∧ Q (.tup ds) M1) : DE X w (.Call (.Name "tuple" p) [a] [] pos) Γ M Q :=
  de_callT S hx (S.bt _ hb) boot_tuple' cd_tuple hs rfl (da_cons hs (de_imp h fun d M1 q => da_nil q))
theorem de_intC (S : Sc X k n) (hs : starEach [a] X.env = [(false, eval a X.env)]) (hx : ("int" : Str) ∈ n.glb) (hb : ("int" : Str) ∈ n.bts) (h : DE X w a Γ M fun d M1 => pInt d M1 Q) : DE X w (.Call (.Name "int" p) [a] [] pos) Γ M Q :=
  de_callT S hx (S.bt _ hb) boot_int' cd_int hs rfl (da_cons hs (de_imp h fun d M1 q => da_nil q))
theorem de_isi (S : Sc X k n) (hs : starEach [a, b] X.env = [(false, eval a X.env), (false, eval b X.env)]) (hs2 : starEach [b] X.env = [(false, eval b X.env)]) (hx : ("isinstance" : Str) ∈ n.glb) (hb : ("isinstance" : Str) ∈ n.bts) (h : DE X w a Γ M fun x M1 => DE X w b Γ M1 fun y M2 => pIsi [x, y] M2 Q) : DE X w (.Call (.Name "isinstance" p) [a, b] [] pos) Γ M Q :=
  de_callB S hx (S.bt _ hb) boot_isinstance' cd_isi (by rw [hs, hs2]) (by rw [hs2]; rfl) (da_cons (by rw [hs, hs2]) (de_imp h fun d M1 q => da_cons hs2 (de_imp q fun d M1 q => da_nil q)))
theorem de_append (hs : starEach [e] X.env = [(false, eval e X.env)]) (h : DE X w o Γ M fun x M1 => ∃ p ds, x = .ptr p ∧ M1 p = some (.l ds) ∧ DE X w e Γ M1 fun d M2 => ∃ ds, M2 p = some (.l ds) ∧ ds.length < sizeLine ∧ Q .non (M2.put p (.l (ds ++ [d])))) {apos cpos : Pos} (hbase : attributeBase o "append" X.env (eval o X.env) = eval o X.env) (hline : (apos.endLine == cpos.line) = true) : DE X w (.Call (.Attribute o "append" apos) [e] [] cpos) Γ M Q :=
  de_bm PySem.F.plainAttrs_list PySem.F.slot_list_append PySem.F.type_list_append md_append hbase (by rw [hs]; rfl) hline hs rfl (de_imp h fun x M1 ⟨p, ds, h1, h2, h3⟩ => by
    subst h1
    exact ⟨⟨rfl, ds, h2⟩, da_cons hs (de_imp h3 fun d M2 q => da_nil q)⟩)
theorem de_join (hs : starEach [e] X.env = [(false, eval e X.env)]) (h : DE X w o Γ M fun x M1 => ∃ s, x = .str s ∧ DE X w e Γ M1 fun d M2 => ∃ ys : List Str, d.seqM M2 = some (ys.map .str) ∧ (ys.map (·.length)).sum + ys.length * s.length ≤ 16777216 ∧ Q (.str (Txt.join s ys)) M2) {apos cpos : Pos} (hbase : attributeBase o "join" X.env (eval o X.env) = eval o X.env) (hline : (apos.endLine == cpos.line) = true) : DE X w (.Call (.Attribute o "join" apos) [e] [] cpos) Γ M Q :=
  de_bm PySem.F.plainAttrs_str PySem.F.slot_str_join PySem.F.type_str_join md_join hbase (by rw [hs]; rfl) hline hs rfl (de_imp h fun x M1 ⟨s, h1, h3⟩ => by
    subst h1
    exact ⟨rfl, da_cons hs (de_imp h3 fun d M2 q => da_nil q)⟩)

/-! ### 24. Two and three names at once -/
theorem Sc.blk (S : Sc X k n) {sc scope : Scope} {nb : Nm} (hsc : X.env.scope = sc) (h : scB [] (relS scope sc) nb = true) (hf : ∀ y ∈ nb.locs, scope.names.lookup y = some .cell ∨ (relS scope sc).names.lookup y = some .local) (hb : ∀ y ∈ nb.bts, y ∈ n.bts) (s0 : Shared) (H0 : Hp) (C : Addr) (cl : List (Str × Addr)) (fp : List Addr) : Sc (blkX X scope s0 H0 C cl fp) k nb := by
  have q := scB_of h
  subst hsc
  exact ⟨S.nd, S.calm, .never, S.room, q.kd, fun y hy => ⟨q.loc y hy, (hf y hy).imp (fun z => by show (scope.names.lookup y == some NameKind.cell) = true; rw [z]; rfl) fun z => z⟩, q.lcl, q.cel, fun y hy => q.gl y hy, fun y hy => S.bt y (hb y hy)⟩
theorem sw_two {env : Env} {x y : Str} {px py pt : Pos} {kt k2 pt2} (hk : env.scope.kind = .function) (hx : env.scope.names.lookup x = some .local) (hy : env.scope.names.lookup y = some .local)
    (hl : (py.line == px.line) = true) (hne : ([x, y] : List Str).eraseDups.length = 2) (h1 : ([a, b] : List Expr).any (fun | .Starred .. => true | _ => false) = false) (h2 : [a, b].all (foldedForSure 8) = false) (h3 : [a, b].all (constantsAlone 8) = false) :
    swappedStores [.Tuple [.Name x px, .Name y py] kt pt] (.Tuple [a, b] k2 pt2) env = pure (some [x, y]) := by
  have hb : env.blockKind = .function := by unfold Env.blockKind; rw [hk]; rfl
  have kx : env.kindOf x = some .local := hx
  have ky : env.kindOf y = some .local := hy
  have lx : (px.line == px.line) = true := by simp
  unfold swappedStores
  simp only [hb, List.head?_cons, Option.map_some, Expr.pos, Option.getD_some, List.filterMap_cons, List.filterMap_nil, kx, ky, lx, hl, h1, h2, h3, hne, List.length_cons, List.length_nil]
  simp at h1 hne
  simp [hne]
  intro z
  exfalso
  rcases z with z | z
  · exact Bool.false_ne_true (h1.1.symm.trans z)
  · exact Bool.false_ne_true (h1.2.symm.trans z)
theorem sw_three {env : Env} {x y z : Str} {px py pz pt : Pos} {kt k2 pt2} (hk : env.scope.kind = .function) (hx : env.scope.names.lookup x = some .local) (hy : env.scope.names.lookup y = some .local) (hz : env.scope.names.lookup z = some .local)
    (hl : (py.line == px.line) = true) (hl2 : (pz.line == px.line) = true) (hne : ([x, y, z] : List Str).eraseDups.length = 3) (h1 : ([a, b, c] : List Expr).any (fun | .Starred .. => true | _ => false) = false) (h2 : [a, b, c].all (foldedForSure 8) = false) (h3 : [a, b, c].all (constantsAlone 8) = false) :
    swappedStores [.Tuple [.Name x px, .Name y py, .Name z pz] kt pt] (.Tuple [a, b, c] k2 pt2) env = pure (some [x, y, z]) := by
  have hb : env.blockKind = .function := by unfold Env.blockKind; rw [hk]; rfl
  have kx : env.kindOf x = some .local := hx
  have ky : env.kindOf y = some .local := hy
  have kz : env.kindOf z = some .local := hz
  have lx : (px.line == px.line) = true := by simp
  unfold swappedStores
  simp only [hb, List.head?_cons, Option.map_some, Expr.pos, Option.getD_some, List.filterMap_cons, List.filterMap_nil, kx, ky, kz, lx, hl, hl2, h1, h2, h3, hne, List.length_cons, List.length_nil]
  simp at h1 hne
  simp [hne]
  intro z
  exfalso
  rcases z with z | z | z
  · exact Bool.false_ne_true (h1.1.symm.trans z)
  · exact Bool.false_ne_true (h1.2.1.symm.trans z)
  · exact Bool.false_ne_true (h1.2.2.symm.trans z)
end
end L3
namespace L3
open PySem PySem.Spec PyProof.Rows L2
theorem take_more {α : Type} : ∀ {l : List α} {i : Nat} {x : α}, l[i]? = some x → l.take (i + 1) = l.take i ++ [x]
  | [], i, x, h => by simp at h
  | a :: l, 0, x, h => by
    have e : a = x := Option.some.inj h
    subst e
    rfl
  | a :: l, i + 1, x, h => by
    have ih := take_more (l := l) (i := i) (x := x) h
    show a :: l.take (i + 1) = a :: l.take i ++ [x]
    rw [ih]
    rfl
/-- the named names as they are known in Γ -/
inductive Pk (Γ : Ga) : List Str → Ga → Prop where
  | nil : Pk Γ [] []
  | cons {x : Str} {i : Nat} {o : Option D} {xs : List Str} {Γc : Ga} : (x, i, o) ∈ Γ → Pk Γ xs Γc → Pk Γ (x :: xs) ((x, i, o) :: Γc)
theorem Pk.mem {Γ : Ga} : ∀ {xs : List Str} {Γc : Ga}, Pk Γ xs Γc → (∀ e ∈ Γc, e ∈ Γ) ∧ Γc.map (·.1) = xs
  | _, _, .nil => ⟨fun _ h => (by cases h), rfl⟩
  | _, _, .cons h t => ⟨fun e he => by
    rcases List.mem_cons.mp he with q | q
    · rw [q]; exact h
    · exact t.mem.1 e q, by rw [List.map_cons, t.mem.2]⟩
/-- the block's own names, nothing known of them -/
def ownG (own : List (Str × Nat)) : Ga := own.map fun p => (p.1, p.2, none)
/-- all that is asked of a comprehension's text -/
def lcB (N : List Str) (sc scope : Scope) (own : List (Str × Nat)) (cap : List Str) (nb : Nm) : Bool :=
  blkC N sc scope own && (scB (own.map (·.1) ++ cap) (relS scope sc) nb && (nb.locs.all (fun y => (match scope.names.lookup y with | some .cell => true | _ => false) || (match (relS scope sc).names.lookup y with | some .local => true | _ => false)) && decide (own.map (·.2)).Nodup))
structure LcB (N : List Str) (sc scope : Scope) (own : List (Str × Nat)) (cap : List Str) (nb : Nm) : Prop where
  ok : BlkOk N sc scope own
  sb : scB [] (relS scope sc) nb = true
  vis : ∀ x ∈ own.map (·.1) ++ cap, Vis (relS scope sc) x ∧ okN x = true
  loc : ∀ y ∈ nb.locs, scope.names.lookup y = some .cell ∨ (relS scope sc).names.lookup y = some .local
  nd : (own.map (·.2)).Nodup
theorem scB_less {v : List Str} {sc : Scope} {n : Nm} (h : scB v sc n = true) : scB [] sc n = true := by
  unfold scB at h ⊢
  simp only [Bool.and_eq_true] at h ⊢
  exact ⟨rfl, h.2⟩
theorem lcB_of {N : List Str} {sc scope : Scope} {own : List (Str × Nat)} {cap : List Str} {nb : Nm} (h : lcB N sc scope own cap nb = true) : LcB N sc scope own cap nb := by
  unfold lcB at h
  simp only [Bool.and_eq_true, List.all_eq_true, Bool.or_eq_true, decide_eq_true_eq] at h
  obtain ⟨h1, h2, h3, h4⟩ := h
  refine ⟨blkOk_by h1, scB_less h2, (scB_of h2).vis, fun y hy => (h3 y hy).imp (fun z => ?_) fun z => ?_, h4⟩
  · split at z <;> first | exact (Bool.false_ne_true z).elim | assumption
  · split at z <;> first | exact (Bool.false_ne_true z).elim | assumption
section
variable {X : Cx} {w : Wi} {Γ Γ' Γc : Ga} {M : Mm} {Q : D → Mm → Prop} {QT : Bool → Mm → Prop} {x v : Str} {i : Nat} {d : D} {a b c e o tg iter elt : Expr} {es rest' : List Expr} {pos p p2 vp : Pos} {k k0 : Nat} {n nb : Nm} {S : SpD} {P : Po} {rest : List Stmt} {N : List Str} {sc scope : Scope} {own : List (Str × Nat)} {cap : List Str}
theorem blkG_of (hN : X.N = N) (hsc : X.env.scope = sc) (L : LcB N sc scope own cap nb) (pk : Pk Γ cap Γc) (nd : (ownG own ++ Γc).map (·.2.1) |>.Nodup) : BlkG X.N (relS scope X.env.scope) own Γ (ownG own ++ Γc) := by
  subst hN hsc
  have ho : ∀ p ∈ own, X.N[p.2]? = some p.1 := L.ok.ix
  rw [List.map_append, List.nodup_append] at nd
  refine ⟨by rw [List.map_append, List.nodup_append]; exact nd, fun e he => ?_, fun e he => ?_⟩
  · refine L.vis e.1 ?_
    rcases List.mem_append.mp he with h | h
    · obtain ⟨p, hp, rfl⟩ := List.mem_map.mp h
      exact List.mem_append_left _ (List.mem_map.mpr ⟨p, hp, rfl⟩)
    · refine List.mem_append_right _ ?_
      rw [← pk.mem.2]
      exact List.mem_map.mpr ⟨e, h, rfl⟩
  · rcases List.mem_append.mp he with h | h
    · obtain ⟨p, hp, rfl⟩ := List.mem_map.mp h
      exact .inr ⟨rfl, ho p hp⟩
    · refine .inl ⟨pk.mem.1 e h, fun z => ?_⟩
      obtain ⟨p, hp, hpe⟩ := List.mem_map.mp z
      exact nd.2.2 _ (List.mem_map.mpr ⟨_, List.mem_map.mpr ⟨p, hp, rfl⟩, hpe⟩) _ (List.mem_map.mpr ⟨e, h, rfl⟩) rfl
/-- what a comprehension over items asks, the target a name -/
abbrev LcN (X : Cx) (w : Wi) (v : Str) (vp : Pos) (i : Nat) (iter elt : Expr) (ifs : List Expr) (scope : Scope) (k : Nat) (nb : Nm) (Γ Γc : Ga) (M : Mm) (Q : D → Mm → Prop) : Prop :=
  DI X w (.Name v vp) iter Γ M fun ds M1 => ds.length ≤ sizeLine ∧ ∃ I : Nat → List D → Mm → Prop, I 0 [] M1 ∧
    (∀ j d acc M, ds[j]? = some d → I j acc M → ∀ s0 H0 C cl fp, Sc (blkX X scope s0 H0 C cl fp) k nb → DIf (blkX X scope s0 H0 C cl fp) w.dry ifs ((v, i, some d) :: Γc) M fun t M3 =>
      (t = true → ∀ s0 H0 C cl fp, Sc (blkX X scope s0 H0 C cl fp) k nb → DE (blkX X scope s0 H0 C cl fp) w.dry elt ((v, i, some d) :: Γc) M3 fun r M4 => I (j + 1) (acc ++ [r]) M4) ∧ (t = false → I (j + 1) acc M3)) ∧ (∀ acc M, I ds.length acc M → Q (.lst acc) M)
theorem DIf.imp {X : Cx} {w : Wi} {ifs : List Expr} {Γ : Ga} {M : Mm} {Q Q' : Bool → Mm → Prop} (h : DIf X w ifs Γ M Q) (q : ∀ t M', Q t M' → Q' t M') : DIf X w ifs Γ M Q' := by
  rcases ifs with _ | ⟨c, _ | ⟨c2, cs⟩⟩
  · exact q _ _ h
  · have h : DT X w c Γ M Q := h
    exact dt_imp h q
  · exact h.elim
theorem lcN_to {ifs : List Expr} (S : Sc X k n) (hN : X.N = N) (hsc : X.env.scope = sc) (L : LcB N sc scope [(v, i)] cap nb) (hv : v ∈ nb.locs) (hb : ∀ y ∈ nb.bts, y ∈ n.bts) (h : LcN X w v vp i iter elt ifs scope k nb Γ Γc M Q) :
    LcD X w (.Name v vp) iter elt ifs scope [(v, i)] Γ (ownG [(v, i)] ++ Γc) M Q := .mk fun F σ H Hb A => by
  refine semIt_mono (h.run F σ H Hb A) fun J H1 ⟨Hb1, M1, ds, e1, A1, it, hz, I, i0, turn, fin⟩ => ⟨Hb1, M1, ds, e1, A1, it, hz, I, i0, ?_, fin⟩
  intro j d acc M2 hd q s0 H0 C cl fp
  have Sb : ∀ s0 H0 C cl fp, Sc (blkX X scope s0 H0 C cl fp) k nb := fun s0 H0 C cl fp => S.blk hsc L.sb L.loc hb s0 H0 C cl fp
  refine dgv_name (Sb s0 H0 C cl fp) Put.here hv (by simp) ?_
  intro s1 H1' C1 cl1 fp1
  exact DIf.imp (turn j d acc M2 hd q s1 H1' C1 cl1 fp1 (Sb s1 H1' C1 cl1 fp1)) fun t M3 ⟨z1, z2⟩ => ⟨fun e s2 H2 C2 cl2 fp2 => z1 e s2 H2 C2 cl2 fp2 (Sb s2 H2 C2 cl2 fp2), z2⟩
/-- [elt for v in iter if ..] -/
theorem de_lcN {ifs : List Expr} (S : Sc X k n) (hN : X.N = N) (hsc : X.env.scope = sc) (i : Nat) (cap : List Str) (nb : Nm) (chk : lcB N sc scope [(v, i)] cap nb = true) (hv : v ∈ nb.locs) (hb : ∀ y ∈ nb.bts, y ∈ n.bts) (pk : Pk Γ cap Γc) (nd : ((ownG [(v, i)] ++ Γc).map (·.2.1)).Nodup)
    (hs : ∀ x, foldedSetIterable iter X.env x = pure x) (h : LcN X w v vp i iter elt ifs scope k nb Γ Γc M Q) : DE X w (.ListComp elt [⟨.Name v vp, iter, ifs, 0⟩] scope pos) Γ M Q :=
  have L := lcB_of chk
  de_lc S (by subst hN hsc; exact L.ok) (blkG_of hN hsc L pk nd) hs (lcN_to S hN hsc L hv hb h)
/-- y = [elt for v in iter if ..] on one line, y a plain local -/
theorem ds_lcN {ifs : List Expr} {y : Str} {iy : Nat} {py spos : Pos} (S : Sc X k n) (hN : X.N = N) (hsc : X.env.scope = sc) (i : Nat) (cap : List Str) (nb : Nm) (chk : lcB N sc scope [(v, i)] cap nb = true) (hv : v ∈ nb.locs) (hb : ∀ y ∈ nb.bts, y ∈ n.bts) (pk : Pk Γ cap Γc) (nd : ((ownG [(v, i)] ++ Γc).map (·.2.1)).Nodup)
    (hy : y ∈ n.lcl) {o : Option D} (hm : (y, iy, o) ∈ Γ) (hl : (py.line == pos.line) = true) (hny : (scope.names.any fun (n, k) => n == y && (k == .local || k == .cell)) = false)
    (hs : ∀ x, foldedSetIterable iter X.env x = pure x) (h : LcN X w v vp i iter elt ifs scope k nb Γ Γc M fun d M1 => ∃ Γ', Put Γ y d Γ' iy ∧ DS X w rest Γ' M1 P) :
    DS X w (.Assign [.Name y py] (.ListComp elt [⟨.Name v vp, iter, ifs, 0⟩] scope pos) spos :: rest) Γ M P :=
  have L := lcB_of chk
  ds_setLc S hm (S.lcl y hy) (sw_true S.kd (S.lcl y hy) hl hny) (by subst hN hsc; exact L.ok) (blkG_of hN hsc L pk nd) hs (lcN_to S hN hsc L hv hb h)
/-- the same over a typed list, the memory as it is: map (and filter) -/
theorem lcN_map {α : Type} {iter elt : Expr} (xs : List α) (f g : α → D) (hz : xs.length ≤ sizeLine) (hi : DI X w (.Name v vp) iter Γ M fun ds M1 => ds = xs.map f ∧ M1 = M)
    (he : ∀ x ∈ xs, ∀ s0 H0 C cl fp, Sc (blkX X scope s0 H0 C cl fp) k nb → DE (blkX X scope s0 H0 C cl fp) w.dry elt ((v, i, some (f x)) :: Γc) M fun r M4 => r = g x ∧ M4 = M) (q : Q (.lst (xs.map g)) M) : LcN X w v vp i iter elt [] scope k nb Γ Γc M Q := .mk fun F σ H Hb A => by
  refine semIt_mono (hi.run F σ H Hb A) fun J H1 ⟨Hb1, M1, ds, e1, A1, it, hds, hM⟩ => ?_
  subst hds hM
  refine ⟨Hb1, M1, _, e1, A1, it, by simpa using hz, fun j acc M' => acc = (xs.take j).map g ∧ M' = M1, ⟨rfl, rfl⟩, ?_, fun acc M' ⟨h1, h2⟩ => by
    subst h1 h2
    rw [List.length_map, List.take_length]; exact q⟩
  rintro j d acc M' hd ⟨rfl, rfl⟩ s0 H0 C cl fp Sb
  rw [List.getElem?_map] at hd
  cases z : xs[j]? with
  | none => rw [z] at hd; cases hd
  | some x =>
    rw [z] at hd
    cases hd
    refine ⟨fun _ s1 H1 C1 cl1 fp1 Sb1 => de_imp (he x (List.mem_of_getElem? z) s1 H1 C1 cl1 fp1 Sb1) fun r M4 ⟨h1, h2⟩ => ?_, fun z => by cases z⟩
    subst h1 h2
    refine ⟨?_, rfl⟩
    rw [take_more z, List.map_append]; rfl
theorem lcN_filter {α : Type} {iter elt c : Expr} (xs : List α) (f g : α → D) (p : α → Bool) (hz : xs.length ≤ sizeLine) (hi : DI X w (.Name v vp) iter Γ M fun ds M1 => ds = xs.map f ∧ M1 = M)
    (hc : ∀ x ∈ xs, ∀ s0 H0 C cl fp, Sc (blkX X scope s0 H0 C cl fp) k nb → DT (blkX X scope s0 H0 C cl fp) w.dry c ((v, i, some (f x)) :: Γc) M fun t M4 => t = p x ∧ M4 = M)
    (he : ∀ x ∈ xs, p x = true → ∀ s0 H0 C cl fp, Sc (blkX X scope s0 H0 C cl fp) k nb → DE (blkX X scope s0 H0 C cl fp) w.dry elt ((v, i, some (f x)) :: Γc) M fun r M4 => r = g x ∧ M4 = M) (q : Q (.lst ((xs.filter p).map g)) M) : LcN X w v vp i iter elt [c] scope k nb Γ Γc M Q := .mk fun F σ H Hb A => by
  refine semIt_mono (hi.run F σ H Hb A) fun J H1 ⟨Hb1, M1, ds, e1, A1, it, hds, hM⟩ => ?_
  subst hds hM
  refine ⟨Hb1, M1, _, e1, A1, it, by simpa using hz, fun j acc M' => acc = ((xs.take j).filter p).map g ∧ M' = M1, ⟨rfl, rfl⟩, ?_, fun acc M' ⟨h1, h2⟩ => by
    subst h1 h2
    rw [List.length_map, List.take_length]; exact q⟩
  rintro j d acc M' hd ⟨rfl, rfl⟩ s0 H0 C cl fp Sb
  rw [List.getElem?_map] at hd
  cases z : xs[j]? with
  | none => rw [z] at hd; cases hd
  | some x =>
    rw [z] at hd
    cases hd
    have tk := take_more z
    have hc' := hc x (List.mem_of_getElem? z) s0 H0 C cl fp Sb
    show DT _ _ c _ _ _
    refine dt_imp hc' fun t M4 ⟨h1, h2⟩ => ?_
    subst h1 h2
    refine ⟨fun ht s1 H1 C1 cl1 fp1 Sb1 => de_imp (he x (List.mem_of_getElem? z) ht s1 H1 C1 cl1 fp1 Sb1) fun r M4 ⟨h1, h2⟩ => ?_, fun ht => ⟨?_, rfl⟩⟩
    · subst h1 h2
      refine ⟨?_, rfl⟩
      rw [tk, List.filter_append, List.filter_cons, if_pos ht, List.map_append]; rfl
    · rw [tk, List.filter_append, List.filter_cons, if_neg (by rw [ht]; exact Bool.false_ne_true), List.filter_nil, List.append_nil]
/-! two and three names -/
theorem ds_par2 {x y : Str} {j : Nat} {px py pt : Pos} {kt k2 pt2} (S : Sc X k n) {o o' : Option D} (hx : (x, i, o) ∈ Γ) (hy : (y, j, o') ∈ Γ) (hij : i ≠ j) (lx : x ∈ n.lcl) (ly : y ∈ n.lcl)
    (hl : (py.line == px.line) = true) (hne : ([x, y] : List Str).eraseDups.length = 2) (h1 : ([a, b] : List Expr).any (fun | .Starred .. => true | _ => false) = false) (h2 : [a, b].all (foldedForSure 8) = false) (h3 : [a, b].all (constantsAlone 8) = false)
    (hs : swapsWithSole [.Tuple [.Name x px, .Name y py] kt pt] (.Tuple [a, b] k2 pt2) pos.line X.env = pure false)
    (h : DA X w [a, b] Γ M fun ds M1 => ∃ d1 d2 Γ1 Γ2, ds = [d1, d2] ∧ Put Γ x d1 Γ1 i ∧ Put Γ1 y d2 Γ2 j ∧ DS X w rest Γ2 M1 P) : DS X w (.Assign [.Tuple [.Name x px, .Name y py] kt pt] (.Tuple [a, b] k2 pt2) pos :: rest) Γ M P :=
  ds_par S hx hy hij (S.lcl x lx) (S.lcl y ly) (sw_two S.kd (S.lcl x lx) (S.lcl y ly) hl hne h1 h2 h3) hs h
theorem ds_par3' {x y z : Str} {j l : Nat} {px py pz pt : Pos} {kt k2 pt2} (S : Sc X k n) {o o' o'' : Option D} (hx : (x, i, o) ∈ Γ) (hy : (y, j, o') ∈ Γ) (hz : (z, l, o'') ∈ Γ) (hij : i ≠ j) (hil : i ≠ l) (hjl : j ≠ l) (lx : x ∈ n.lcl) (ly : y ∈ n.lcl) (lz : z ∈ n.lcl)
    (hl : (py.line == px.line) = true) (hl2 : (pz.line == px.line) = true) (hne : ([x, y, z] : List Str).eraseDups.length = 3) (h1 : ([a, b, c] : List Expr).any (fun | .Starred .. => true | _ => false) = false) (h2 : [a, b, c].all (foldedForSure 8) = false) (h3 : [a, b, c].all (constantsAlone 8) = false)
    (hs : swapsWithSole [.Tuple [.Name x px, .Name y py, .Name z pz] kt pt] (.Tuple [a, b, c] k2 pt2) pos.line X.env = pure false)
    (h : DA X w [a, b, c] Γ M fun ds M1 => ∃ d1 d2 d3 Γ1 Γ2 Γ3, ds = [d1, d2, d3] ∧ Put Γ x d1 Γ1 i ∧ Put Γ1 y d2 Γ2 j ∧ Put Γ2 z d3 Γ3 l ∧ DS X w rest Γ3 M1 P) : DS X w (.Assign [.Tuple [.Name x px, .Name y py, .Name z pz] kt pt] (.Tuple [a, b, c] k2 pt2) pos :: rest) Γ M P :=
  ds_par3 S hx hy hz hij hil hjl (S.lcl x lx) (S.lcl y ly) (S.lcl z lz) (sw_three S.kd (S.lcl x lx) (S.lcl y ly) (S.lcl z lz) hl hl2 hne h1 h2 h3) hs h
end
end L3
namespace L3
open PySem PySem.Spec PyProof.Rows L2
section
variable {X : Cx} {w : Wi} {Γ Γ' Γc : Ga} {M : Mm} {Q : D → Mm → Prop} {x : Str} {i : Nat} {d : D} {a b c e o tg : Expr} {pos p p2 : Pos} {k : Nat} {n : Nm} {P : Po} {rest : List Stmt} {QG : Ga → Mm → Prop}
/-- o[i] = .., o a list that changes -/
theorem dg_sub (ha : ∀ v, assign (.Subscript o a pos) X.env v = (do
      let ov ← holding [v] (eval o X.env)
      let iv ← holding [v, ov] (eval a X.env)
      standAt pos
      holding [v, ov, iv] (setItem ov iv v)
      release [v, ov, iv] []))
    (h : DE X w o Γ M fun y M1 => DE X w a Γ M1 fun z M2 => ∃ p j k ds, y = .ptr p ∧ z = .int k ∧ M2 p = some (.l ds) ∧ ixN ds.length k = some j ∧ QG Γ (M2.put p (.l (ds.set j d)))) : DG X w (.Subscript o a pos) d Γ M QG := .mk fun F σ H Hb v A r => by
  refine semG_of (pg_sub semE_ok semE_ok set_list ha) ?_
  refine semE_mono (h.run F σ H Hb A) fun v1 H1 ⟨Hb1, d1, M1, e1, A1, r1, q1⟩ => ?_
  refine semE_mono (q1.run F σ H1 Hb1 A1) fun v2 H2 ⟨Hb2, d2, M2, e2, A2, r2, p, j, k, ds, h1, h2, h3, h4, q2⟩ => ?_
  subst h1 h2
  rw [rep_ptr r1]
  cases r2
  obtain ⟨_, us, g, rr⟩ := A2.hs.ce _ _ h3
  refine ⟨p, us, k, j, rfl, rfl, g, by rw [rr.length]; exact h4, ?_⟩
  exact ⟨Hb2, Γ, _, e1.trans e2, A2.write (c := .l (ds.set j d)) h3 ⟨_, upd_same, rr.set ((r.mono e1).mono e2) j⟩, q2⟩
theorem Mm.put_id {M : Mm} {p : Addr} {c : Cell} (h : M p = some c) : M.put p c = M := by
  funext a; unfold Mm.put; split
  · rename_i e; rw [e, h]
  · rfl
end

/-! ### 25. The law's bag -/
/-- what stands in the bag: the cells, the next one's place, the rest of a great cell, a mixed number -/
structure Bag where
  cells : List Int
  nx : Int
  gr : Int
  mx : Int
  h1 : 0 ≤ nx
  h2 : nx ≤ cells.length
  h3 : 0 ≤ gr
  h4 : 0 ≤ mx
  h5 : mx < 2147483648
  h6 : cells.length ≤ 63
def Bag.cell (b : Bag) : Cell := .l [.lst (b.cells.map .int), .int b.nx, .int b.gr, .int b.mx]
/-- the memory with the bag at p -/
abbrev Mm.bag (M : Mm) (p : Addr) (b : Bag) : Mm := M.put p b.cell
theorem cutD_to {ds : List D} {n : Nat} : cutD ds none (some (n : Int)) = ds.take n := by
  unfold cutD
  rw [HT.sIx_none, HT.sIx_nat, List.drop_zero, Nat.sub_zero]
  by_cases h : n ≤ ds.length
  · rw [Nat.min_eq_left h]
  · rw [Nat.min_eq_right (by omega), List.take_of_length_le (Nat.le_refl _), List.take_of_length_le (by omega)]
theorem cutD_from {ds : List D} {n : Nat} : cutD ds (some (n : Int)) none = ds.drop n := by
  unfold cutD
  rw [HT.sIx_none, HT.sIx_nat]
  by_cases h : n ≤ ds.length
  · rw [Nat.min_eq_left h, List.take_of_length_le (by rw [List.length_drop]; omega)]
  · rw [Nat.min_eq_right (by omega), List.drop_of_length_le (Nat.le_refl _), List.drop_of_length_le (by omega), List.take_nil]
theorem pow18 : ((10 : Int) ^ (18 : Int).toNat) = 1000000000000000000 := by decide +kernel
end L3
namespace L3
open PySem PySem.Spec PyProof.Rows L2

/-! ### 26. The bag somewhere, the rest as it was -/
def BagAt (M : Mm) (p : Addr) : Prop := ∃ b : Bag, M p = some b.cell
def Keep (p : Addr) (M M' : Mm) : Prop := ∀ q, q ≠ p → M' q = M q
theorem Keep.refl (p : Addr) (M : Mm) : Keep p M M := fun _ _ => rfl
theorem Keep.trans {p : Addr} {M M1 M2 : Mm} (a : Keep p M M1) (b : Keep p M1 M2) : Keep p M M2 := fun q h => (b q h).trans (a q h)
theorem Keep.put {p : Addr} {M : Mm} {c : Cell} : Keep p M (M.put p c) := fun q h => Mm.put_ne h
theorem BagAt.put {p : Addr} {M : Mm} {b : Bag} : BagAt (M.bag p b) p := ⟨b, Mm.put_same⟩
theorem Bag.of {p : Addr} {M : Mm} {b : Bag} (h : M p = some b.cell) : M = M.bag p b := by
  funext a; unfold Mm.bag Mm.put; split
  · rename_i e; rw [e, h]
  · rfl
theorem BagAt.other {p q : Addr} {M : Mm} {c : Cell} (h : BagAt M p) (n : p ≠ q) : BagAt (M.put q c) p := by
  obtain ⟨b, hb⟩ := h; exact ⟨b, by rw [Mm.put_ne n]; exact hb⟩
theorem BagAt.ne {p q : Addr} {M : Mm} (h : BagAt M p) (n : M q = none) : p ≠ q := by
  obtain ⟨b, hb⟩ := h; intro e; rw [e, n] at hb; cases hb
/-- a drawn number: what stays is told -/
def dDraw (p : Addr) (m : Int) (M : Mm) (Q : D → Mm → Prop) : Prop := ∀ (i : Int) (M' : Mm), 0 ≤ i → i < m → BagAt M' p → Keep p M M' → Q (.int i) M'

/-! ### 27. A def at the top -/
theorem bts_nil {mg : Str → Option Value} : ∀ x ∈ ([] : List Str), mg x = none := fun _ h => nomatch h
theorem bts_cons {mg : Str → Option Value} {x : Str} {l : List Str} (h : mg x = none) (t : ∀ y ∈ l, mg y = none) : ∀ y ∈ x :: l, mg y = none := fun y hy => by
  rcases List.mem_cons.mp hy with q | q
  · rw [q]; exact h
  · exact t y q
theorem kw_nil {fd : FuncData} {ps : List Str} : ∀ f ∈ ([] : List KwF), KB fd ps f := fun _ h => nomatch h
theorem kw_cons {fd : FuncData} {ps : List Str} {f : KwF} {l : List KwF} (h : KB fd ps f) (t : ∀ g ∈ l, KB fd ps g) : ∀ g ∈ f :: l, KB fd ps g := fun y hy => by
  rcases List.mem_cons.mp hy with q | q
  · rw [q]; exact h
  · exact t y q
theorem _root_.L2.Fun.kbs {K : PySem.W.Frag} {x qual : Str} {st : Stmt} {f : Addr} {fd : FuncData} (F : Fun K x qual st f fd) {ps : List Str} {KW : List KwF}
    (h : ∀ (kV doc pm : Value) (an : Option Addr) (cdv ct : Value), ∀ f ∈ KW, KB (PySem.W.fnOf x qual (defArgs st) (defBody st) (defScope st) .none kV doc pm an cdv ct) ps f) : ∀ f ∈ KW, KB fd ps f := by
  obtain ⟨oc, od, kV, doc, pm, an, cdv, ct, osl, rfl, lk, hcd⟩ := F.ex
  exact h _ _ _ _ _ _
/-- a def as the module holds it -/
structure TopFn (K : PySem.W.Frag) (mg : Str → Option Value) (x : Str) (st : Stmt) : Prop where
  gm : mg x = some (.ref (ca mg x))
  ex : ∃ fd, Fun K x x st (ca mg x) fd
theorem topFn {K : PySem.W.Frag} {h : Heap} {mg : Str → Option Value} {f : Addr} {x : Str} {st : Stmt} (X : K.In h) (G : h.Ns mainGlobals mg) {oc : Value} {od an : Option Addr} {osl : Array (Option Value)} {kV doc pm cdv ct : Value}
    (a : PySem.W.nsIn K mainGlobals x = some (some (.ref f))) (l : K.lookup f = some ⟨oc, od, .func (PySem.W.fnOf x x (defArgs st) (defBody st) (defScope st) .none kV doc pm an cdv ct), osl⟩)
    (c : PySem.W.codeIn K cdv x = true) (k : PySem.W.keepIn K (.ref f) = true) : TopFn K mg x st := by
  have g := PySem.W.mg_of X G a
  have e : ca mg x = f := by unfold ca; rw [g]
  exact ⟨by rw [e]; exact g, ⟨_, by rw [e]; exact fun_mk l c k⟩⟩

/-! ### 28. A comprehension over pairs -/
section
variable {X : Cx} {w : Wi} {Γ Γ' Γc : Ga} {M : Mm} {Q : D → Mm → Prop} {QT : Bool → Mm → Prop} {x v u : Str} {i j : Nat} {d : D} {a b c e o tg iter elt : Expr} {es rest' : List Expr} {pos p p2 vp up tp : Pos} {k k0 tk : Nat} {n nb : Nm} {S : SpD} {P : Po} {rest : List Stmt} {N : List Str} {sc scope : Scope} {own : List (Str × Nat)} {cap : List Str}
abbrev LcT (X : Cx) (w : Wi) (v : Str) (vp : Pos) (i : Nat) (u : Str) (up : Pos) (j : Nat) (tk : Nat) (tp : Pos) (iter elt : Expr) (ifs : List Expr) (scope : Scope) (k : Nat) (nb : Nm) (Γ Γc : Ga) (M : Mm) (Q : D → Mm → Prop) : Prop :=
  DI X w (.Tuple [.Name v vp, .Name u up] tk tp) iter Γ M fun ds M1 => ds.length ≤ sizeLine ∧ ∃ I : Nat → List D → Mm → Prop, I 0 [] M1 ∧
    (∀ jj d acc M, ds[jj]? = some d → I jj acc M → ∃ d1 d2, d.seq = some [d1, d2] ∧ ∀ s0 H0 C cl fp, Sc (blkX X scope s0 H0 C cl fp) k nb → DIf (blkX X scope s0 H0 C cl fp) w.dry ifs ((v, i, some d1) :: (u, j, some d2) :: Γc) M fun t M3 =>
      (t = true → ∀ s0 H0 C cl fp, Sc (blkX X scope s0 H0 C cl fp) k nb → DE (blkX X scope s0 H0 C cl fp) w.dry elt ((v, i, some d1) :: (u, j, some d2) :: Γc) M3 fun r M4 => I (jj + 1) (acc ++ [r]) M4) ∧ (t = false → I (jj + 1) acc M3)) ∧ (∀ acc M, I ds.length acc M → Q (.lst acc) M)
theorem lcT_to {ifs : List Expr} (S : Sc X k n) (hN : X.N = N) (hsc : X.env.scope = sc) (L : LcB N sc scope [(v, i), (u, j)] cap nb) (hv : v ∈ nb.locs) (hu : u ∈ nb.locs) (hij : i ≠ j) (hb : ∀ y ∈ nb.bts, y ∈ n.bts)
    (hes : ∀ s0 H0 C cl fp, assignEach [.Name v vp, .Name u up] (blkX X scope s0 H0 C cl fp).env = [(false, assign (.Name v vp) (blkX X scope s0 H0 C cl fp).env), (false, assign (.Name u up) (blkX X scope s0 H0 C cl fp).env)])
    (hes2 : ∀ s0 H0 C cl fp, assignEach [.Name u up] (blkX X scope s0 H0 C cl fp).env = [(false, assign (.Name u up) (blkX X scope s0 H0 C cl fp).env)]) (hes3 : ∀ s0 H0 C cl fp, assignEach [] (blkX X scope s0 H0 C cl fp).env = [])
    (h : LcT X w v vp i u up j tk tp iter elt ifs scope k nb Γ Γc M Q) :
    LcD X w (.Tuple [.Name v vp, .Name u up] tk tp) iter elt ifs scope [(v, i), (u, j)] Γ (ownG [(v, i), (u, j)] ++ Γc) M Q := .mk fun F σ H Hb A => by
  refine semIt_mono (h.run F σ H Hb A) fun J H1 ⟨Hb1, M1, ds, e1, A1, it, hz, I, i0, turn, fin⟩ => ⟨Hb1, M1, ds, e1, A1, it, hz, I, i0, ?_, fin⟩
  intro jj d acc M2 hd q s0 H0 C cl fp
  have Sb : ∀ s0 H0 C cl fp, Sc (blkX X scope s0 H0 C cl fp) k nb := fun s0 H0 C cl fp => S.blk hsc L.sb L.loc hb s0 H0 C cl fp
  obtain ⟨d1, d2, hs, q⟩ := turn jj d acc M2 hd q
  refine dgv_tup (Sb s0 H0 C cl fp) hs (by rw [hes]; rfl) (by rw [hes]; rfl) ?_
  refine dgs_cons (by rw [hes, hes2]; rfl) ?_
  refine dgv_name (Sb s0 H0 C cl fp) Put.here hv (by simp) ?_
  refine dgs_cons (by rw [hes2, hes3]; rfl) ?_
  refine dgv_name (Sb s0 H0 C cl fp) (Put.there Put.here) hu (by simp) ?_
  refine dgs_nil ?_
  intro s1 H1' C1 cl1 fp1
  exact DIf.imp (q s1 H1' C1 cl1 fp1 (Sb s1 H1' C1 cl1 fp1)) fun t M3 ⟨z1, z2⟩ => ⟨fun e s2 H2 C2 cl2 fp2 => z1 e s2 H2 C2 cl2 fp2 (Sb s2 H2 C2 cl2 fp2), z2⟩
theorem de_lcT {ifs : List Expr} (S : Sc X k n) (hN : X.N = N) (hsc : X.env.scope = sc) (i j : Nat) (cap : List Str) (nb : Nm) (chk : lcB N sc scope [(v, i), (u, j)] cap nb = true) (hv : v ∈ nb.locs) (hu : u ∈ nb.locs) (hij : i ≠ j) (hb : ∀ y ∈ nb.bts, y ∈ n.bts) (pk : Pk Γ cap Γc) (nd : ((ownG [(v, i), (u, j)] ++ Γc).map (·.2.1)).Nodup)
    (hes : ∀ s0 H0 C cl fp, assignEach [.Name v vp, .Name u up] (blkX X scope s0 H0 C cl fp).env = [(false, assign (.Name v vp) (blkX X scope s0 H0 C cl fp).env), (false, assign (.Name u up) (blkX X scope s0 H0 C cl fp).env)])
    (hes2 : ∀ s0 H0 C cl fp, assignEach [.Name u up] (blkX X scope s0 H0 C cl fp).env = [(false, assign (.Name u up) (blkX X scope s0 H0 C cl fp).env)]) (hes3 : ∀ s0 H0 C cl fp, assignEach [] (blkX X scope s0 H0 C cl fp).env = [])
    (hs : ∀ x, foldedSetIterable iter X.env x = pure x) (h : LcT X w v vp i u up j tk tp iter elt ifs scope k nb Γ Γc M Q) : DE X w (.ListComp elt [⟨.Tuple [.Name v vp, .Name u up] tk tp, iter, ifs, 0⟩] scope pos) Γ M Q :=
  have L := lcB_of chk
  de_lc S (by subst hN hsc; exact L.ok) (blkG_of hN hsc L pk nd) hs (lcT_to S hN hsc L hv hu hij hb hes hes2 hes3 h)
end

section
variable {X : Cx} {w : Wi} {Γ : Ga} {M : Mm} {e : Expr}
/-- a slice's end -/
def pO : D → Mm → (Option Int → Mm → Prop) → Prop
  | .int i, M, Q => Q (some i) M
  | _, _, _ => False
theorem do_none {Q : Option Int → Mm → Prop} (q : Q none M) : DO X w none Γ M Q := q
theorem do_some {Q : Option Int → Mm → Prop} (h : DE X w e Γ M fun d M1 => pO d M1 Q) : DO X w (some e) Γ M Q := show DE X w e Γ M fun d M1 => ∃ i, d = .int i ∧ Q (some i) M1 from de_imp h fun d M1 q => by
  cases d <;> first | exact ⟨_, rfl, q⟩ | exact q.elim
end
/-! ### wishes by a name: what follows stays out of sight -/
structure GnE (Q Q' : D → Mm → Prop) : Prop where
  go : ∀ d M, Q d M → Q' d M
structure GnT (Q Q' : Bool → Mm → Prop) : Prop where
  go : ∀ d M, Q d M → Q' d M
structure GnP (P P' : Po) : Prop where
  nx : ∀ Γ M, P.nx Γ M → P'.nx Γ M
  rt : ∀ Γ M, P.rt Γ M → P'.rt Γ M
  bk : ∀ Γ M, P.bk Γ M → P'.bk Γ M
  ct : ∀ Γ M, P.ct Γ M → P'.ct Γ M
section
variable {X : Cx} {w : Wi} {Γ : Ga} {M : Mm} {Q Q' : D → Mm → Prop} {QT QT' : Bool → Mm → Prop} {e : Expr} {P P' : Po} {sts : List Stmt} {d : D} {t : Bool}
theorem de_gen (h : ∀ Q', GnE Q Q' → DE X w e Γ M Q') : DE X w e Γ M Q := h Q ⟨fun _ _ q => q⟩
theorem dt_gen (h : ∀ Q', GnT QT Q' → DT X w e Γ M Q') : DT X w e Γ M QT := h QT ⟨fun _ _ q => q⟩
theorem ds_gen (h : ∀ P', GnP P P' → DS X w sts Γ M P') : DS X w sts Γ M P := h P ⟨fun _ _ q => q, fun _ _ q => q, fun _ _ q => q, fun _ _ q => q⟩
theorem fnE (h : GnE Q Q') (q : Q d M) : Q' d M := h.go _ _ q
theorem fnT (h : GnT QT QT') (q : QT t M) : QT' t M := h.go _ _ q
theorem fnN (h : GnP P P') (q : P.nx Γ M) : P'.nx Γ M := h.nx _ _ q
theorem fnR (h : GnP P P') (q : P.rt d M) : P'.rt d M := h.rt _ _ q
theorem fnB (h : GnP P P') (q : P.bk Γ M) : P'.bk Γ M := h.bk _ _ q
theorem fnC (h : GnP P P') (q : P.ct Γ M) : P'.ct Γ M := h.ct _ _ q
end
/-! ### heads -/
theorem nP {A : Prop} (h : A) : A := h

section
variable {X : Cx} {w : Wi} {Γ : Ga} {M : Mm} {Q : D → Mm → Prop} {QT : Bool → Mm → Prop} {e a b : Expr} {P : Po} {sts : List Stmt} {x : Str} {p : Pos}
theorem hE (h : DE X w e Γ M Q) : DE X w e Γ M Q := h
theorem hT (h : DT X w e Γ M QT) : DT X w e Γ M QT := h
theorem hS (h : DS X w sts Γ M P) : DS X w sts Γ M P := h
theorem hE_name (h : DE X w (.Name x p) Γ M Q) : DE X w (.Name x p) Γ M Q := h
theorem hE_cmp {os : List CmpOp} {cs : List Expr} (h : DE X w (.Compare a os cs p) Γ M Q) : DE X w (.Compare a os cs p) Γ M Q := h
theorem hT_cmp {os : List CmpOp} {cs : List Expr} (h : DT X w (.Compare a os cs p) Γ M QT) : DT X w (.Compare a os cs p) Γ M QT := h
theorem hE_bin {o : Operator} (h : DE X w (.BinOp a o b p) Γ M Q) : DE X w (.BinOp a o b p) Γ M Q := h
theorem hE_call {as : List Expr} {ks : List Keyword} (h : DE X w (.Call a as ks p) Γ M Q) : DE X w (.Call a as ks p) Γ M Q := h
end
section
variable {X : Cx} {w : Wi} {Γ : Ga} {M : Mm} {P : Po} {rest : List Stmt} {d : D} 
theorem po_nx (h : DS X w rest Γ M P) : (P.then X w rest).nx Γ M := h
theorem po_rt (h : P.rt d M) : (P.then X w rest).rt d M := h
theorem po_bk (h : P.bk Γ M) : (P.then X w rest).bk Γ M := h
theorem po_ct (h : P.ct Γ M) : (P.then X w rest).ct Γ M := h
theorem pol_nx (h : P.nx Γ M) : P.nx Γ M := h
theorem pol_rt (h : P.rt d M) : P.rt d M := h
theorem pol_bk (h : P.bk Γ M) : P.bk Γ M := h
theorem pol_ct (h : P.ct Γ M) : P.ct Γ M := h
end
/-! ### plain forms -/
theorem px_const {c : Const} {k : Nat} {p : Pos} : PlainIx (.Constant c k p) := fun _ _ => rfl
theorem px_name {x : Str} {p : Pos} : PlainIx (.Name x p) := fun _ _ => rfl
theorem px_bin {a b : Expr} {op : Operator} {p : Pos} : PlainIx (.BinOp a op b p) := fun _ _ => rfl
theorem px_una {a : Expr} {op : UnaryOp} {p : Pos} : PlainIx (.UnaryOp op a p) := fun _ _ => rfl
theorem px_call {f : Expr} {as : List Expr} {ks : List Keyword} {p : Pos} : PlainIx (.Call f as ks p) := fun _ _ => rfl
theorem px_sub {a b : Expr} {p : Pos} : PlainIx (.Subscript a b p) := fun _ _ => rfl
theorem px_attr {a : Expr} {x : Str} {p : Pos} : PlainIx (.Attribute a x p) := fun _ _ => rfl
theorem px_tup {as : List Expr} {k : Nat} {p : Pos} : PlainIx (.Tuple as k p) := fun _ _ => rfl
section
variable {X : Cx} {w : Wi} {Γ : Ga} {M : Mm} {Q : D → Mm → Prop} {e o : Expr}
theorem de_append' {apos cpos : Pos} (hs : starEach [e] X.env = [(false, eval e X.env)]) (hbase : attributeBase o "append" X.env (eval o X.env) = eval o X.env) (hline : (apos.endLine == cpos.line) = true) (h : DE X w o Γ M fun x M1 => ∃ p ds, x = .ptr p ∧ M1 p = some (.l ds) ∧ DE X w e Γ M1 fun d M2 => ∃ ds, M2 p = some (.l ds) ∧ ds.length < sizeLine ∧ Q .non (M2.put p (.l (ds ++ [d])))) : DE X w (.Call (.Attribute o "append" apos) [e] [] cpos) Γ M Q := de_append hs h hbase hline
theorem de_join' {apos cpos : Pos} (hs : starEach [e] X.env = [(false, eval e X.env)]) (hbase : attributeBase o "join" X.env (eval o X.env) = eval o X.env) (hline : (apos.endLine == cpos.line) = true) (h : DE X w o Γ M fun x M1 => ∃ s, x = .str s ∧ DE X w e Γ M1 fun d M2 => ∃ ys : List Str, d.seqM M2 = some (ys.map .str) ∧ (ys.map (·.length)).sum + ys.length * s.length ≤ 16777216 ∧ Q (.str (Txt.join s ys)) M2) : DE X w (.Call (.Attribute o "join" apos) [e] [] cpos) Γ M Q := de_join hs h hbase hline
end
/-- o[i] = d -/
def pSet : D → D → D → Mm → (Mm → Prop) → Prop
  | .ptr p, .int k, d, M, Q => ∃ ds j, M p = some (.l ds) ∧ ixN ds.length k = some j ∧ Q (M.put p (.l (ds.set j d)))
  | _, _, _, _, _ => False
section
variable {X : Cx} {w : Wi} {Γ : Ga} {M : Mm} {e o a : Expr} {P : Po} {rest : List Stmt} {pos spos : Pos}
theorem ds_asgSub (hs : swapsWithSole [.Subscript o a pos] e spos.line X.env = pure false) (hw : swappedStores [.Subscript o a pos] e X.env = pure none) (h1 : (assignEach [.Subscript o a pos] X.env).map (·.2) = [assign (.Subscript o a pos) X.env])
    (ha : ∀ v, assign (.Subscript o a pos) X.env v = (do
      let ov ← holding [v] (eval o X.env)
      let iv ← holding [v, ov] (eval a X.env)
      standAt pos
      holding [v, ov, iv] (setItem ov iv v)
      release [v, ov, iv] []))
    (h : DE X w e Γ M fun d M1 => DE X w o Γ M1 fun y M2 => DE X w a Γ M2 fun z M3 => pSet y z d M3 fun M4 => DS X w rest Γ M4 P) : DS X w (.Assign [.Subscript o a pos] e spos :: rest) Γ M P :=
  ds_asg hs hw h1 (de_imp h fun d M1 q => dg_sub ha (de_imp q fun y M2 q => de_imp q fun z M3 q => by
    cases y <;> first | exact q.elim | skip
    cases z <;> first | exact q.elim | skip
    obtain ⟨ds, j, h1, h2, q⟩ := q
    exact ⟨_, j, _, ds, rfl, rfl, h1, h2, q⟩))
end
theorem kit_NoneType_list : kitB "NoneType" "list" = some false := by decide +kernel
theorem kit_NoneType_tuple : kitB "NoneType" "tuple" = some false := by decide +kernel
theorem kit_NoneType_bool : kitB "NoneType" "bool" = some false := by decide +kernel
theorem kit_NoneType_int : kitB "NoneType" "int" = some false := by decide +kernel
theorem kit_NoneType_str : kitB "NoneType" "str" = some false := by decide +kernel
theorem kit_NoneType_dict : kitB "NoneType" "dict" = some false := by decide +kernel
theorem kit_bool_list : kitB "bool" "list" = some false := by decide +kernel
theorem kit_bool_tuple : kitB "bool" "tuple" = some false := by decide +kernel
theorem kit_bool_bool : kitB "bool" "bool" = some true := by decide +kernel
theorem kit_bool_int : kitB "bool" "int" = some true := by decide +kernel
theorem kit_bool_str : kitB "bool" "str" = some false := by decide +kernel
theorem kit_bool_dict : kitB "bool" "dict" = some false := by decide +kernel
theorem kit_int_list : kitB "int" "list" = some false := by decide +kernel
theorem kit_int_tuple : kitB "int" "tuple" = some false := by decide +kernel
theorem kit_int_bool : kitB "int" "bool" = some false := by decide +kernel
theorem kit_int_int : kitB "int" "int" = some true := by decide +kernel
theorem kit_int_str : kitB "int" "str" = some false := by decide +kernel
theorem kit_int_dict : kitB "int" "dict" = some false := by decide +kernel
theorem kit_str_list : kitB "str" "list" = some false := by decide +kernel
theorem kit_str_tuple : kitB "str" "tuple" = some false := by decide +kernel
theorem kit_str_bool : kitB "str" "bool" = some false := by decide +kernel
theorem kit_str_int : kitB "str" "int" = some false := by decide +kernel
theorem kit_str_str : kitB "str" "str" = some true := by decide +kernel
theorem kit_str_dict : kitB "str" "dict" = some false := by decide +kernel
theorem kit_tuple_list : kitB "tuple" "list" = some false := by decide +kernel
theorem kit_tuple_tuple : kitB "tuple" "tuple" = some true := by decide +kernel
theorem kit_tuple_bool : kitB "tuple" "bool" = some false := by decide +kernel
theorem kit_tuple_int : kitB "tuple" "int" = some false := by decide +kernel
theorem kit_tuple_str : kitB "tuple" "str" = some false := by decide +kernel
theorem kit_tuple_dict : kitB "tuple" "dict" = some false := by decide +kernel
theorem kit_list_list : kitB "list" "list" = some true := by decide +kernel
theorem kit_list_tuple : kitB "list" "tuple" = some false := by decide +kernel
theorem kit_list_bool : kitB "list" "bool" = some false := by decide +kernel
theorem kit_list_int : kitB "list" "int" = some false := by decide +kernel
theorem kit_list_str : kitB "list" "str" = some false := by decide +kernel
theorem kit_list_dict : kitB "list" "dict" = some false := by decide +kernel
theorem kit_dict_list : kitB "dict" "list" = some false := by decide +kernel
theorem kit_dict_tuple : kitB "dict" "tuple" = some false := by decide +kernel
theorem kit_dict_bool : kitB "dict" "bool" = some false := by decide +kernel
theorem kit_dict_int : kitB "dict" "int" = some false := by decide +kernel
theorem kit_dict_str : kitB "dict" "str" = some false := by decide +kernel
theorem kit_dict_dict : kitB "dict" "dict" = some true := by decide +kernel
/-! ### leaves -/
section
variable {M : Mm} {Q : D → Mm → Prop} {QT : Bool → Mm → Prop} {i j : Int} {s t : Str} {x y d : D} {ds es : List D} {p : Addr}
theorem lf_addI (h : Q (.int (i + j)) M) : pAdd (.int i) (.int j) M Q := h
theorem lf_addL (l : ds.length + es.length ≤ sizeLine) (h : Q (.lst (ds ++ es)) M) : pAdd (.lst ds) (.lst es) M Q := ⟨l, h⟩
theorem lf_T2 {g : Int → Int → D} (h : Q (g i j) M) : pI2 T2 g (.int i) (.int j) M Q := ⟨trivial, h⟩
theorem lf_C2 {C : Int → Int → Prop} {g : Int → Int → D} (c : C i j) (h : Q (g i j) M) : pI2 C g (.int i) (.int j) M Q := ⟨c, h⟩
theorem lf_mod (c : 0 < j) (h : Q (.int (i % j)) M) : pI2 (fun _ j => 0 < j) (fun i j => .int (i % j)) (.int i) (.int j) M Q := ⟨c, h⟩
theorem lf_fdiv (c : 0 < j) (c2 : j < 1073741824) (h : Q (.int (i / j)) M) : pI2 CDiv (fun i j => .int (i / j)) (.int i) (.int j) M Q := ⟨⟨c, c2⟩, h⟩
theorem lf_pow (c : 0 ≤ j) (c2 : j ≤ 1000000) (c3 : i.natAbs < 18446744073709551616) (h : Q (.int (i ^ j.toNat)) M) : pI2 CPow (fun i j => .int (i ^ j.toNat)) (.int i) (.int j) M Q := ⟨⟨c, c2, c3⟩, h⟩
def mB (j : Int) : Prop := -18446744073709551616 < j ∧ j < 18446744073709551616
instance : Decidable (mB j) := by unfold mB; infer_instance
theorem lf_mulI (c : mB i ∨ mB j) (h : Q (.int (i * j)) M) : pMul (.int i) (.int j) M Q := ⟨c, h⟩
theorem lf_bl {c : Bool} {R : Bool → Prop} (h : R c) : ∃ c', D.bl c = .bl c' ∧ R c' := ⟨c, rfl, h⟩
theorem lf_bl2 {c : Bool} {A B : Bool → Prop} (h : (c = true → A c) ∧ (c = false → B c)) : ∃ c', D.bl c = .bl c' ∧ (c' = true → A c') ∧ (c' = false → B c') := ⟨c, rfl, h⟩
theorem eq_ii : D.eq (.int i) (.int j) = decide (i = j) := by
  show PyData.eqv (.int i) (.int j) = _
  rw [PyData.eqv]; rfl
theorem eq_ss : D.eq (.str s) (.str t) = decide (s = t) := by
  show PyData.eqv (.str s) (.str t) = _
  rw [PyData.eqv]; rfl
theorem eq_bb {a b : Bool} : D.eq (.bl a) (.bl b) = (a == b) := by
  show PyData.eqv (.bool a) (.bool b) = _
  rw [PyData.eqv]
theorem eq_ll : D.eq (.lst ds) (.lst es) = PyData.eqvAll (D.pys ds) (D.pys es) := by
  show PyData.eqv (.list _) (.list _) = _
  rw [PyData.eqv]
theorem eq_tt : D.eq (.tup ds) (.tup es) = PyData.eqvAll (D.pys ds) (D.pys es) := by
  show PyData.eqv (.tuple _) (.tuple _) = _
  rw [PyData.eqv]
theorem eqs_nil : PyData.eqvAll (D.pys []) (D.pys []) = true := rfl
theorem eqs_cons : PyData.eqvAll (D.pys (x :: ds)) (D.pys (y :: es)) = (D.eq x y && PyData.eqvAll (D.pys ds) (D.pys es)) := by
  show PyData.eqvAll (x.py :: _) (y.py :: _) = _
  rw [PyData.eqvAll]; rfl
theorem eq_refl {n : Nat} (h : D.ok n d = true) : D.eq d d = true := SeqAt.eqv_refl _ (D.lay h).1
theorem lf_eqS (h1 : D.ok 60 (.str s) = true) (h2 : D.ok 60 (.str t) = true) (h : Q (.bl (decide (s = t))) M) : pEq (.str s) (.str t) M Q := ⟨h1, h2, by rw [eq_ss]; exact h⟩
theorem lf_neS (h1 : D.ok 60 (.str s) = true) (h2 : D.ok 60 (.str t) = true) (h : Q (.bl (!decide (s = t))) M) : pNe (.str s) (.str t) M Q := ⟨h1, h2, by rw [eq_ss]; exact h⟩
theorem lf_eqI (h : Q (.bl (decide (i = j))) M) : pEq (.int i) (.int j) M Q := ⟨rfl, rfl, by rw [eq_ii]; exact h⟩
theorem lf_eqB {a b : Bool} (h : Q (.bl (a == b)) M) : pEq (.bl a) (.bl b) M Q := ⟨rfl, rfl, by rw [eq_bb]; exact h⟩
theorem lf_neB {a b : Bool} (h : Q (.bl (!(a == b))) M) : pNe (.bl a) (.bl b) M Q := ⟨rfl, rfl, by rw [eq_bb]; exact h⟩
theorem lf_neI (h : Q (.bl (!decide (i = j))) M) : pNe (.int i) (.int j) M Q := ⟨rfl, rfl, by rw [eq_ii]; exact h⟩
theorem lf_ixL (e : atI ds i = some d) (h : Q d M) : pIx (.lst ds) (.int i) M Q := ⟨d, e, h⟩
theorem lf_ixT (e : atI ds i = some d) (h : Q d M) : pIx (.tup ds) (.int i) M Q := ⟨d, e, h⟩
theorem lf_ixP (m : M p = some (.l ds)) (e : atI ds i = some d) (h : Q d M) : pIx (.ptr p) (.int i) M Q := ⟨ds, d, m, e, h⟩
theorem ix0 {a : D} : atI (a :: ds) (0 : Int) = some a := atI_nat (j := 0) rfl
theorem ix1 {a b : D} : atI (a :: b :: ds) (1 : Int) = some b := atI_nat (j := 1) rfl
theorem ix2 {a b c : D} : atI (a :: b :: c :: ds) (2 : Int) = some c := atI_nat (j := 2) rfl
theorem ix3 {a b c d : D} : atI (a :: b :: c :: d :: ds) (3 : Int) = some d := atI_nat (j := 3) rfl
theorem ix4 {a b c d e : D} : atI (a :: b :: c :: d :: e :: ds) (4 : Int) = some e := atI_nat (j := 4) rfl
theorem ix5 {a b c d e f : D} : atI (a :: b :: c :: d :: e :: f :: ds) (5 : Int) = some f := atI_nat (j := 5) rfl
theorem lf_sqL {R : List D → Prop} (h : R ds) : ∃ xs, D.seqM M (.lst ds) = some xs ∧ R xs := ⟨_, rfl, h⟩
theorem lf_sqT {R : List D → Prop} (h : R ds) : ∃ xs, D.seqM M (.tup ds) = some xs ∧ R xs := ⟨_, rfl, h⟩
theorem lf_sqP {R : List D → Prop} (m : M p = some (.l ds)) (h : R ds) : ∃ xs, D.seqM M (.ptr p) = some xs ∧ R xs := ⟨ds, by show (match M p with | some (.l ds) => some ds | _ => none) = some ds; rw [m], h⟩
theorem lf_put {Γ Γ' : Ga} {y : Str} {n : Nat} {R : Ga → Prop} (h : Put Γ y d Γ' n) (k : R Γ') : ∃ Γ'', Put Γ y d Γ'' n ∧ R Γ'' := ⟨Γ', h, k⟩
theorem lf_F {A B : Prop} (h : B) : (false = true → A) ∧ (false = false → B) := ⟨fun e => (by cases e), fun _ => h⟩
theorem lf_T {A B : Prop} (h : A) : (true = true → A) ∧ (true = false → B) := ⟨fun _ => h, fun e => (by cases e)⟩
theorem lf_set0 {R : Mm → Prop} {a : D} (m : M p = some (.l (a :: ds))) (h : R (M.put p (.l (d :: ds)))) : pSet (.ptr p) (.int 0) d M R := ⟨_, 0, m, by unfold ixN; simp, h⟩
theorem lf_set1 {R : Mm → Prop} {a b : D} (m : M p = some (.l (a :: b :: ds))) (h : R (M.put p (.l (a :: d :: ds)))) : pSet (.ptr p) (.int 1) d M R := ⟨_, 1, m, by unfold ixN; simp; omega, h⟩
theorem lf_set2 {R : Mm → Prop} {a b c : D} (m : M p = some (.l (a :: b :: c :: ds))) (h : R (M.put p (.l (a :: b :: d :: ds)))) : pSet (.ptr p) (.int 2) d M R := ⟨_, 2, m, by unfold ixN; simp; omega, h⟩
theorem lf_set3 {R : Mm → Prop} {a b c e : D} (m : M p = some (.l (a :: b :: c :: e :: ds))) (h : R (M.put p (.l (a :: b :: c :: d :: ds)))) : pSet (.ptr p) (.int 3) d M R := ⟨_, 3, m, by unfold ixN; simp; omega, h⟩
theorem lf_isi {T c : String} {b : Bool} (h1 : x.tyName M = some T) (h2 : kitB T c = some b) (h : Q (.bl b) M) : pIsi [x, .ty c] M Q := ⟨T, b, h1, h2, h⟩
theorem lf_is (h : Q (.bl (match x with | .non => true | _ => false)) M) : pIs x .non M Q := ⟨rfl, h⟩
theorem lf_isnot (h : Q (.bl (match x with | .non => false | _ => true)) M) : pIsNot x .non M Q := ⟨rfl, h⟩
theorem lf_isN (h : Q (.bl true) M) : pIs .non .non M Q := ⟨rfl, h⟩
theorem lf_isnotN (h : Q (.bl false) M) : pIsNot .non .non M Q := ⟨rfl, h⟩
theorem lf_blT {A B : Bool → Prop} (h : A true) : ∃ c', D.bl true = .bl c' ∧ (c' = true → A c') ∧ (c' = false → B c') := ⟨true, rfl, fun _ => h, fun e => (by cases e)⟩
theorem lf_blF {A B : Bool → Prop} (h : B false) : ∃ c', D.bl false = .bl c' ∧ (c' = true → A c') ∧ (c' = false → B c') := ⟨false, rfl, fun e => (by cases e), fun _ => h⟩
theorem lf_is_bl {b : Bool} (h : Q (.bl false) M) : pIs (.bl b) .non M Q := ⟨rfl, h⟩
theorem lf_isnot_bl {b : Bool} (h : Q (.bl true) M) : pIsNot (.bl b) .non M Q := ⟨rfl, h⟩
theorem lf_is_int  (h : Q (.bl false) M) : pIs (.int i) .non M Q := ⟨rfl, h⟩
theorem lf_isnot_int  (h : Q (.bl true) M) : pIsNot (.int i) .non M Q := ⟨rfl, h⟩
theorem lf_is_str  (h : Q (.bl false) M) : pIs (.str s) .non M Q := ⟨rfl, h⟩
theorem lf_isnot_str  (h : Q (.bl true) M) : pIsNot (.str s) .non M Q := ⟨rfl, h⟩
theorem lf_is_tup  (h : Q (.bl false) M) : pIs (.tup ds) .non M Q := ⟨rfl, h⟩
theorem lf_isnot_tup  (h : Q (.bl true) M) : pIsNot (.tup ds) .non M Q := ⟨rfl, h⟩
theorem lf_is_lst  (h : Q (.bl false) M) : pIs (.lst ds) .non M Q := ⟨rfl, h⟩
theorem lf_isnot_lst  (h : Q (.bl true) M) : pIsNot (.lst ds) .non M Q := ⟨rfl, h⟩
theorem lf_is_obj {c : Str} {fs : List (Str × D)} (h : Q (.bl false) M) : pIs (.obj c fs) .non M Q := ⟨rfl, h⟩
theorem lf_isnot_obj {c : Str} {fs : List (Str × D)} (h : Q (.bl true) M) : pIsNot (.obj c fs) .non M Q := ⟨rfl, h⟩
theorem lf_is_dK {kvs : List (Key × D)} (h : Q (.bl false) M) : pIs (.dK kvs) .non M Q := ⟨rfl, h⟩
theorem lf_isnot_dK {kvs : List (Key × D)} (h : Q (.bl true) M) : pIsNot (.dK kvs) .non M Q := ⟨rfl, h⟩
theorem lf_is_dT {kvs : List (List Key × D)} (h : Q (.bl false) M) : pIs (.dT kvs) .non M Q := ⟨rfl, h⟩
theorem lf_isnot_dT {kvs : List (List Key × D)} (h : Q (.bl true) M) : pIsNot (.dT kvs) .non M Q := ⟨rfl, h⟩
theorem lf_is_ptr  (h : Q (.bl false) M) : pIs (.ptr p) .non M Q := ⟨rfl, h⟩
theorem lf_isnot_ptr  (h : Q (.bl true) M) : pIsNot (.ptr p) .non M Q := ⟨rfl, h⟩
theorem lf_lenL (h : Q (.int ds.length) M) : pLen (.lst ds) M Q := h
theorem lf_lenT (h : Q (.int ds.length) M) : pLen (.tup ds) M Q := h
theorem lf_lenS (l : s.length ≤ sizeLine) (h : Q (.int s.length) M) : pLen (.str s) M Q := ⟨l, h⟩
theorem lf_lenP (m : M p = some (.l ds)) (h : Q (.int ds.length) M) : pLen (.ptr p) M Q := ⟨ds, m, h⟩
theorem lf_abs (h : Q (.int (if i < 0 then -i else i)) M) : pAbs (.int i) M Q := h
theorem lf_intI (h : Q (.int i) M) : pInt (.int i) M Q := h
theorem lf_intB {b : Bool} (h : Q (.int (if b then 1 else 0)) M) : pInt (.bl b) M Q := h
theorem lf_slL {lo hi : Option Int} (h : Q (.lst (cutD ds lo hi)) M) : pSl (.lst ds) lo hi M Q := h
theorem lf_slS {lo hi : Option Int} (l : s.length ≤ sizeLine) (h : Q (.str (cutS s lo hi)) M) : pSl (.str s) lo hi M Q := ⟨l, h⟩
theorem lf_slR {ns : List Int} {lo hi : Option Int} (h : Q (.lst (cutD (ns.map .int) lo hi)) M) : pSl (.scr ns) lo hi M Q := h
theorem lf_oi {Q : Option Int → Mm → Prop} (h : Q (some i) M) : pO (.int i) M Q := h
theorem lf_po {A : Prop} (h : True → A) : A := h trivial
end
/-! ### 29. _law_same -/
mutual
theorem D.ok_up : ∀ {n : Nat} {d : D}, D.ok n d = true → D.ok (n + 1) d = true
  | _, .non, _ => rfl
  | _, .bl _, _ => rfl
  | _, .int _, _ => rfl
  | _, .str s, h => by simpa [D.ok] using h
  | n + 1, .tup ds, h => by
    have h : D.oks n ds = true := by simpa [D.ok] using h
    show D.oks (n + 1) ds = true
    exact D.oks_up h
  | n + 1, .lst ds, h => by
    have h : D.oks n ds = true := by simpa [D.ok] using h
    show D.oks (n + 1) ds = true
    exact D.oks_up h
  | 0, .tup _, q => by simp [D.ok] at q
  | 0, .lst _, q => by simp [D.ok] at q
  | n, .ty _, q => by simp [D.ok] at q
  | n, .dK _, q => by simp [D.ok] at q
  | n, .dT _, q => by simp [D.ok] at q
  | n, .obj _ _, q => by simp [D.ok] at q
  | n, .ptr _, q => by simp [D.ok] at q
  | n, .scr _, q => by simp [D.ok] at q
theorem D.oks_up : ∀ {n : Nat} {ds : List D}, D.oks n ds = true → D.oks (n + 1) ds = true
  | _, [], _ => rfl
  | n, d :: ds, h => by
    simp only [D.oks, Bool.and_eq_true] at h ⊢
    exact ⟨D.ok_up h.1, D.oks_up h.2⟩
end
theorem D.ok_le {n m : Nat} {d : D} (h : D.ok n d = true) (l : n ≤ m) : D.ok m d = true := by
  induction l with
  | refl => exact h
  | step _ ih => exact D.ok_up ih
theorem D.oks_mem {n : Nat} : ∀ {ds : List D} {d : D}, D.oks n ds = true → d ∈ ds → D.ok n d = true
  | x :: xs, d, h, hd => by
    simp only [D.oks, Bool.and_eq_true] at h
    rcases List.mem_cons.mp hd with q | q
    · rw [q]; exact h.1
    · exact D.oks_mem h.2 q
theorem D.oks_of {n : Nat} : ∀ {ds : List D}, (∀ d ∈ ds, D.ok n d = true) → D.oks n ds = true
  | [], _ => rfl
  | x :: xs, h => by
    simp only [D.oks, Bool.and_eq_true]
    exact ⟨h x List.mem_cons_self, D.oks_of fun d hd => h d (List.mem_cons_of_mem _ hd)⟩
mutual
/-- D.ok, and no list is very long -/
def D.sm : Nat → D → Bool
  | _, .non => true
  | _, .bl _ => true
  | _, .int _ => true
  | _, .str s => PyData.strOk s && decide (s.cps.toList.length ≤ 1000000)
  | n + 1, .tup ds => decide (ds.length ≤ 1000000) && D.sms n ds
  | n + 1, .lst ds => decide (ds.length ≤ 1000000) && D.sms n ds
  | _, _ => false
def D.sms : Nat → List D → Bool
  | _, [] => true
  | n, d :: ds => D.sm n d && D.sms n ds
end
mutual
theorem D.sm_ok : ∀ {n : Nat} {d : D}, D.sm n d = true → D.ok n d = true
  | _, .non, _ => rfl
  | _, .bl _, _ => rfl
  | _, .int _, _ => rfl
  | _, .str s, h => by
    simp only [D.sm, Bool.and_eq_true] at h
    simpa [D.ok, PyData.canLay0] using h.1
  | n + 1, .tup ds, h => by
    simp only [D.sm, Bool.and_eq_true] at h
    show D.oks n ds = true
    exact D.sms_ok h.2
  | n + 1, .lst ds, h => by
    simp only [D.sm, Bool.and_eq_true] at h
    show D.oks n ds = true
    exact D.sms_ok h.2
  | 0, .tup _, q => by simp [D.sm] at q
  | 0, .lst _, q => by simp [D.sm] at q
  | n, .ty _, q => by simp [D.sm] at q
  | n, .dK _, q => by simp [D.sm] at q
  | n, .dT _, q => by simp [D.sm] at q
  | n, .obj _ _, q => by simp [D.sm] at q
  | n, .ptr _, q => by simp [D.sm] at q
  | n, .scr _, q => by simp [D.sm] at q
theorem D.sms_ok : ∀ {n : Nat} {ds : List D}, D.sms n ds = true → D.oks n ds = true
  | _, [], _ => rfl
  | n, d :: ds, h => by
    simp only [D.sms, D.oks, Bool.and_eq_true] at h ⊢
    exact ⟨D.sm_ok h.1, D.sms_ok h.2⟩
end
theorem D.sms_mem {n : Nat} : ∀ {ds : List D} {d : D}, D.sms n ds = true → d ∈ ds → D.sm n d = true
  | x :: xs, d, h, hd => by
    simp only [D.sms, Bool.and_eq_true] at h
    rcases List.mem_cons.mp hd with q | q
    · rw [q]; exact h.1
    · exact D.sms_mem h.2 q
theorem D.sms_of {n : Nat} : ∀ {ds : List D}, (∀ d ∈ ds, D.sm n d = true) → D.sms n ds = true
  | [], _ => rfl
  | x :: xs, h => by
    simp only [D.sms, Bool.and_eq_true]
    exact ⟨h x List.mem_cons_self, D.sms_of fun d hd => h d (List.mem_cons_of_mem _ hd)⟩
theorem zipD_self (ds : List D) : zipD ds ds = ds.map fun d => .tup [d, d] := by
  unfold zipD
  induction ds with
  | nil => rfl
  | cons a l ih => rw [List.zipWith_cons_cons, ih]; rfl
theorem all_rep : ∀ n : Nat, (List.replicate n true).all id = true
  | 0 => rfl
  | n + 1 => by rw [List.replicate_succ, List.all_cons, all_rep n]; rfl
end L3
namespace L3
open PySem PySem.Spec PyProof.Rows L2
/-! ### 30. Names -/
def abc : Str := "abcdefghijklmnopqrstuvwxyz"
theorem abc_l : abc.cps.toList = (List.range 26).map (· + 97) := by decide +kernel
def NameS (s : Str) : Prop := 1 ≤ s.cps.toList.length ∧ s.cps.toList.length ≤ 8 ∧ ∀ c ∈ s.cps.toList, 97 ≤ c ∧ c ≤ 122
theorem mem_abc {c : Nat} : c ∈ abc.cps.toList ↔ 97 ≤ c ∧ c ≤ 122 := by
  rw [abc_l]; simp only [List.mem_map, List.mem_range]
  constructor
  · rintro ⟨a, h, rfl⟩; omega
  · intro h; exact ⟨c - 97, by omega, by omega⟩
def NamesOk (n : Nat) (names : List Str) : Prop := names.length = n ∧ (∀ s ∈ names, NameS s) ∧ names.Nodup
section
variable {X : Cx} {w : Wi} {Γ Γ' : Ga} {M : Mm} {Q : List D → Mm → Prop} {P : Po} {tg iter : Expr} {x : Str} {i : Nat} {p : Addr} {c : Cell} {sts : List Stmt} {σ : St}
theorem lf_exS {s : Str} {R : Str → Prop} (h : R s) : ∃ s', D.str s = .str s' ∧ R s' := ⟨s, rfl, h⟩
theorem lf_exP {R : Addr → Prop} (h : R p) : ∃ p', D.ptr p = .ptr p' ∧ R p' := ⟨p, rfl, h⟩
theorem lf_seqL {ds : List D} {R : List D → Prop} (h : R ds) : ∃ xs, D.seq (.lst ds) = some xs ∧ R xs := ⟨_, rfl, h⟩
theorem lf_seqT {ds : List D} {R : List D → Prop} (h : R ds) : ∃ xs, D.seq (.tup ds) = some xs ∧ R xs := ⟨_, rfl, h⟩
theorem lf_rng1 {n : Int} {R : Int → Prop} (h1 : -4611686018427387904 ≤ n) (h2 : n < 4611686018427387904) (h : R n) : ∃ m : Int, [D.int n] = [.int m] ∧ -(2 ^ 62) ≤ m ∧ m < 2 ^ 62 ∧ R m := ⟨n, rfl, by omega, by omega, h⟩
theorem lf_rng2 {m n : Int} {R : Int → Int → Prop} (h1 : -4611686018427387904 ≤ m) (h2 : m < 4611686018427387904) (h3 : -4611686018427387904 ≤ n) (h4 : n < 4611686018427387904) (h : R m n) : ∃ a b : Int, [D.int m, .int n] = [.int a, .int b] ∧ (-(2 ^ 62) ≤ a ∧ a < 2 ^ 62 ∧ -(2 ^ 62) ≤ b ∧ b < 2 ^ 62) ∧ R a b := ⟨m, n, rfl, ⟨by omega, by omega, by omega, by omega⟩, h⟩
theorem lf_par2 {x y : Str} {i j : Nat} {d1 d2 : D} {Γ1 Γ2 : Ga} {R : Ga → Prop} (p1 : Put Γ x d1 Γ1 i) (p2 : Put Γ1 y d2 Γ2 j) (k : R Γ2) : ∃ e1 e2 Γ1 Γ2, [d1, d2] = [e1, e2] ∧ Put Γ x e1 Γ1 i ∧ Put Γ1 y e2 Γ2 j ∧ R Γ2 := ⟨_, _, _, _, rfl, p1, p2, k⟩
theorem lf_par3 {x y z : Str} {i j l : Nat} {d1 d2 d3 : D} {Γ1 Γ2 Γ3 : Ga} {R : Ga → Prop} (p1 : Put Γ x d1 Γ1 i) (p2 : Put Γ1 y d2 Γ2 j) (p3 : Put Γ2 z d3 Γ3 l) (k : R Γ3) : ∃ e1 e2 e3 Γ1 Γ2 Γ3, [d1, d2, d3] = [e1, e2, e3] ∧ Put Γ x e1 Γ1 i ∧ Put Γ1 y e2 Γ2 j ∧ Put Γ2 z e3 Γ3 l ∧ R Γ3 := ⟨_, _, _, _, _, _, rfl, p1, p2, p3, k⟩
theorem hI (h : DI X w tg iter Γ M Q) : DI X w tg iter Γ M Q := h
theorem fp_one {pins : List (Addr × Obj)} {H : Hp} {s : Shared} (I : Inv X pins σ H s) : ∀ b ∈ [s.heap.objs.size], FpOk X pins H b := fun b hb => by
  have hb' : b = s.heap.objs.size := by simpa using hb
  rw [hb']
  exact Inv.fpOk I (Nat.le_refl _) (HOk.fresh I.hok (Nat.le_refl _))
theorem walkL {pins : List (Addr × Obj)} {H : Hp} {s : Shared} {a : Addr} {xs : List V} {R : It → Hp → Prop} (I : Inv X pins σ H s) (hq : SqL X.K H a xs) (q : R (Itl X.K a) H) : wpAny (model X.prog X.w) X.A (pyIter (.ref a)) (PIE X pins σ tg R) X.xe s := by
  obtain ⟨its, rv, p, hz⟩ := Inv.list I hq
  have nw := fp_one I
  exact wpAny_pyIter_list p.isList ⟨_, [s.heap.objs.size], _, _, H, rfl, Inv.kept I (t' := s.toks) (fun _ _ e => Heap.get?_push_of_some _ e), turn_list a _, ⟨_, Heap.get?_push_size _ rfl, rfl, rfl⟩, nw, q⟩
theorem walkT {pins : List (Addr × Obj)} {H : Hp} {s : Shared} {a : Addr} {xs : List V} {R : It → Hp → Prop} (I : Inv X pins σ H s) (hq : SqT X.K H a xs) (q : R (Itt X.K a) H) : wpAny (model X.prog X.w) X.A (pyIter (.ref a)) (PIE X pins σ tg R) X.xe s := by
  obtain ⟨its, rv, p, hz⟩ := Inv.tuple I hq
  have nw := fp_one I
  have p' : s.heap.IsTuple a its.toArray := p
  exact wpAny_pyIter_tuple p' ⟨_, [s.heap.objs.size], _, _, H, rfl, Inv.kept I (t' := s.toks) (fun _ _ e => Heap.get?_push_of_some _ e), turn_tuple a _, ⟨_, Heap.get?_push_size _ rfl, rfl, rfl⟩, nw, q⟩
/-- what a for walks: a list or a tuple of data -/
theorem di_seq (h : DE X w iter Γ M fun d M1 => ∃ ds, d.seq = some ds ∧ Q ds M1) : DI X w tg iter Γ M Q := .mk fun F σ H Hb A => by
  intro pins s I
  refine thn (h.run F σ H Hb A pins s I) fun u s1 ⟨v, H1, I1, r1, Hb1, d, M1, e1, A1, rr, ds, hd, q⟩ => ?_
  cases rr with
  | tup h1 h2 =>
    cases hd; cases r1
    exact walkT I1 (ex_t A1.hs.ex h1) ⟨Hb1, M1, _, e1, A1, itd_tup h1 h2, q⟩
  | lst h1 h2 =>
    cases hd; cases r1
    exact walkL I1 (SqL.of (A1.hs.ex _ _ h1)) ⟨Hb1, M1, _, e1, A1, itd_list h1 h2, q⟩
  | _ => cases hd
/-- a mutable thing that a name holds is data from here on -/
theorem ds_frz (hx : Has Γ x i (.ptr p)) (hm : M p = some c) (hp : Put Γ x c.data Γ' i) (k : DS X w sts Γ' (M.del p) P) : DS X w sts Γ M P := .mk fun F σ H Hb A => by
  obtain ⟨o, e1, r⟩ := (A.hs.ce p c hm).2.rep
  obtain ⟨hs, ex⟩ := A.hs.freeze hm e1
  obtain ⟨v, g1, g2⟩ := A.sl.get _ hx.mem _ rfl
  have ev := rep_ptr g2
  subst ev
  have A2 : At X w F (upd Hb p o) H σ Γ (M.del p) := ⟨A.wok, A.h0.trans ex, A.f0, hs, A.sl.mono ex⟩
  have A3 := A2.put hp (r _ ex upd_same)
  have es : σ.set i (some (.ref p)) = σ := by
    obtain ⟨l, e⟩ := List.getElem?_eq_some_iff.mp g1
    rw [← e, List.set_getElem_self]
  rw [es] at A3
  exact semB_back ex (k.run F σ H _ A3)
end
end L3
namespace L3
open PySem PySem.Spec PyProof.Rows L2
/-! ### texts by their signs -/
abbrev tx (l : List Nat) : Str := ⟨l.toArray⟩
theorem tx_of (s : Str) : s = tx s.cps.toList := by cases s; rfl
theorem tx_len (l : List Nat) : (tx l).length = l.length := by simp [Str.length]
theorem tx_app (a b : List Nat) : tx a ++ tx b = tx (a ++ b) := by show Str.append _ _ = _; simp [Str.append]
theorem tx_l (l : List Nat) : (tx l).cps.toList = l := rfl
theorem glued_e (l : List Str) (a : Array Nat) : l.foldl (fun acc p => acc ++ (Str.cps "") ++ p.cps) a = a ++ (l.map fun s => s.cps.toList).flatten.toArray := by
  induction l generalizing a with
  | nil => simp
  | cons x l ih =>
    rw [List.foldl_cons, ih]
    have : (Str.cps "") = #[] := by decide +kernel
    apply Array.toList_inj.mp
    simp [this]
theorem join_e (l : List Str) : Txt.join "" l = tx (l.map fun s => s.cps.toList).flatten := by
  unfold Txt.join Builtin.Str.glued
  rw [glued_e]
  cases l with
  | nil => rfl
  | cons x l => simp
theorem join_signs (cs : List Nat) : Txt.join "" (cs.map fun c => (⟨#[c]⟩ : Str)) = tx cs := by
  rw [join_e]
  congr 1
  induction cs with
  | nil => rfl
  | cons c cs ih => simp at ih ⊢; exact ih
theorem rngD_length (a : Int) (n : Nat) : (rngD a n).length = n := by unfold rngD; simp
section
variable {M : Mm} {Q : D → Mm → Prop} {a b : List Nat} {k : Int} {s t : Str}
theorem lf_lenX (l : a.length ≤ 1000000) (h : Q (.int a.length) M) : pLen (.str (tx a)) M Q := ⟨by rw [tx_len, sizeLine_eq]; omega, by rw [tx_len]; exact h⟩
theorem cut_to (a : List Nat) (k : Int) (h : 0 ≤ k) : cutS (tx a) none (some k) = tx (a.take k.toNat) := by
  unfold cutS
  rw [HT.sIx_none, show k = ((k.toNat : Nat) : Int) by omega, HT.sIx_nat, tx_len, List.drop_zero, Nat.sub_zero, Int.toNat_natCast, tx_l]
  congr 2
  by_cases q : k.toNat ≤ a.length
  · rw [Nat.min_eq_left q]
  · rw [Nat.min_eq_right (by omega), List.take_of_length_le (Nat.le_refl _), List.take_of_length_le (by omega)]
theorem cut_from (a : List Nat) (k : Int) (h : 0 ≤ k) : cutS (tx a) (some k) none = tx (a.drop k.toNat) := by
  unfold cutS
  rw [HT.sIx_none, show k = ((k.toNat : Nat) : Int) by omega, HT.sIx_nat, tx_len, Int.toNat_natCast, tx_l]
  congr 1
  by_cases q : k.toNat ≤ a.length
  · rw [Nat.min_eq_left q, List.take_of_length_le (by rw [List.length_drop]; omega)]
  · rw [Nat.min_eq_right (by omega), List.drop_of_length_le (Nat.le_refl _), List.drop_of_length_le (by omega), List.take_nil]
theorem lf_slXto (l : a.length ≤ 1000000) (z : 0 ≤ k) (h : Q (.str (tx (a.take k.toNat))) M) : pSl (.str (tx a)) none (some k) M Q := ⟨by rw [tx_len, sizeLine_eq]; omega, by rw [cut_to a k z]; exact h⟩
theorem lf_slXfr (l : a.length ≤ 1000000) (z : 0 ≤ k) (h : Q (.str (tx (a.drop k.toNat))) M) : pSl (.str (tx a)) (some k) none M Q := ⟨by rw [tx_len, sizeLine_eq]; omega, by rw [cut_from a k z]; exact h⟩
theorem lf_addX (l : a.length + b.length ≤ 1000000) (h : Q (.str (tx (a ++ b))) M) : pAdd (.str (tx a)) (.str (tx b)) M Q := ⟨by rw [tx_len, tx_len, sizeLine_eq]; omega, by rw [tx_app]; exact h⟩
theorem lf_addS (l : s.length + t.length ≤ sizeLine) (h : Q (.str (s ++ t)) M) : pAdd (.str s) (.str t) M Q := ⟨l, h⟩
end
section
variable {X : Cx} {w : Wi} {Γ Γ' : Ga} {M : Mm} {P : Po} {x : Str} {i k : Nat} {n : Nm} {rest : List Stmt} {o : Option D} {pos pos' lp : Pos}
theorem lf_lsz {ds : List D} {A : Prop} (l : ds.length ≤ 1000000) (h : A) : ds.length ≤ sizeLine ∧ A := ⟨by rw [sizeLine_eq]; omega, h⟩
/-- x = [], a list that will grow -/
theorem ds_setE (S : Sc X k n) (hx : x ∈ n.locs) (hm : (x, i, o) ∈ Γ) (hs : swapsWith (.List [] lp) (some (.Name x pos')) pos.line X.env = pure false)
    (h : ∀ p, M p = none → ∃ Γ', Put Γ x (.ptr p) Γ' i ∧ DS X w rest Γ' (M.put p (.l [])) P) : DS X w (.Assign [.Name x pos'] (.List [] lp) pos :: rest) Γ M P :=
  ds_set S hx hm hs (de_lstM (da_nil ⟨by rw [sizeLine_eq]; simp, fun p hp => h p hp⟩))
end
section
variable {X : Cx} {w : Wi} {Γ Γ' : Ga} {M : Mm} {P : Po} {x : Str} {i k : Nat} {n : Nm} {tg : Expr} {d : D} {QG : Ga → Mm → Prop} {Q : D → Mm → Prop}
theorem hG (h : DG X w tg d Γ M QG) : DG X w tg d Γ M QG := h
theorem lf_ixAbc {i : Int} (h0 : 0 ≤ i) (h1 : i < 26) (h : Q (.str (tx [97 + i.toNat])) M) : pIx (.str abc) (.int i) M Q := by
  refine ⟨by rw [sizeLine_eq]; decide +kernel, 97 + i.toNat, ?_, h⟩
  obtain ⟨j, rfl⟩ : ∃ j : Nat, i = j := ⟨i.toNat, by omega⟩
  rw [abc_l]
  refine atI_nat ?_
  rw [List.getElem?_map, List.getElem?_range (by omega)]; simp [Nat.add_comm]
theorem lf_mulB {b : Bool} {z : List Nat} (h : Q (.str (tx (if b then z else []))) M) : pMul (.str (tx z)) (.int (if b then 1 else 0)) M Q := ⟨b, rfl, by cases b <;> exact h⟩
end
theorem rngD_at {a : Int} {n j : Nat} {d : D} (h : (rngD a n)[j]? = some d) : j < n ∧ d = .int (a + j) := by
  unfold rngD at h
  rw [List.getElem?_map] at h
  by_cases q : j < n
  · rw [List.getElem?_range q] at h; cases h; exact ⟨q, rfl⟩
  · rw [List.getElem?_eq_none (by simpa using q)] at h; cases h
/-- the k-th drawn name -/
def nameAt (cs : List Nat) (sp ba st : Int) (mo : List Nat) (k : Nat) : List Nat :=
  cs.take sp.toNat ++ [97 + ((ba + st * k) % 26).toNat] ++ cs.drop sp.toNat ++ (if decide ((k : Int) % 2 = 1) = true then mo else [])
theorem rngD_at0 {n j : Nat} {d : D} (h : (rngD 0 n)[j]? = some d) : j < n ∧ d = .int j := by
  have q := rngD_at h
  rw [Int.zero_add] at q; exact q
section
variable {M : Mm} {p : Addr} {ds : List D}
theorem lf_app1 {R : Addr → Prop} (m : M p = some (.l ds)) (h : R p) : ∃ q ds, D.ptr p = .ptr q ∧ M q = some (.l ds) ∧ R q := ⟨p, ds, rfl, m, h⟩
theorem lf_app2 {R : List D → Prop} (m : M p = some (.l ds)) (l : ds.length < sizeLine) (h : R ds) : ∃ es, M p = some (.l es) ∧ es.length < sizeLine ∧ R es := ⟨ds, m, l, h⟩
end
section
variable {M : Mm} {p : Addr} {c : Cell}
theorem lf_frz {R : Addr → Cell → Prop} (m : M p = some c) (h : R p c) : ∃ q cl, D.ptr p = .ptr q ∧ M q = some cl ∧ R q cl := ⟨p, c, rfl, m, h⟩
end
theorem keep_del {p q : Addr} {M M1 M2 : Mm} {c : Cell} (k : Keep p M M1) (h : M1 q = none) (e : M2 = M1.put q c) : Keep p M (M2.del q) := fun a ha => by
  subst e
  unfold Mm.del
  by_cases z : a = q
  · rw [if_pos z, z]
    by_cases y : q = p
    · rw [← y] at ha; exact absurd z ha
    · rw [← k q y, h]
  · rw [if_neg z, Mm.put_ne z]; exact k a ha
theorem BagAt.del {p q : Addr} {M : Mm} {c : Cell} (h : BagAt M p) (n : M q = none) : BagAt ((M.put q c).del q) p := by
  have z := h.ne n
  obtain ⟨b, hb⟩ := h
  exact ⟨b, by unfold Mm.del; rw [if_neg z, Mm.put_ne z]; exact hb⟩
theorem names_ok {cs mo : List Nat} {sp ba st : Int} {n : Nat} (h : cs.length ≤ 4) (hc : ∀ c ∈ cs, 97 ≤ c ∧ c ≤ 122) (hm : mo.length ≤ 1) (hmc : ∀ c ∈ mo, 97 ≤ c ∧ c ≤ 122) (hst : st ∈ ([1, 3, 5, 7] : List Int)) (hn : n ≤ 26) :
    NamesOk n ((List.range n).map fun k => tx (nameAt cs sp ba st mo k)) := by
  refine ⟨by simp, fun s hs => ?_, ?_⟩
  · obtain ⟨k, hk, rfl⟩ := List.mem_map.mp hs
    have e : (cs.take sp.toNat).length + (cs.drop sp.toNat).length = cs.length := by rw [List.length_take, List.length_drop]; omega
    refine ⟨?_, ?_, fun c hcm => ?_⟩
    · show 1 ≤ (nameAt cs sp ba st mo k).length
      unfold nameAt; simp only [List.length_append, List.length_cons, List.length_nil]; omega
    · show (nameAt cs sp ba st mo k).length ≤ 8
      unfold nameAt; simp only [List.length_append, List.length_cons, List.length_nil]
      split <;> (try simp only [List.length_nil]) <;> omega
    · have hcm : c ∈ nameAt cs sp ba st mo k := hcm
      unfold nameAt at hcm
      rcases List.mem_append.mp hcm with z | z
      · rcases List.mem_append.mp z with z | z
        · rcases List.mem_append.mp z with z | z
          · exact hc c (List.mem_of_mem_take z)
          · rw [List.mem_singleton.mp z]; omega
        · exact hc c (List.mem_of_mem_drop z)
      · split at z
        · exact hmc c z
        · cases z
  · rw [List.Nodup, List.pairwise_map]
    refine List.Pairwise.imp_of_mem ?_ (List.nodup_range (n := n))
    intro a b ha hb hab e
    have e : nameAt cs sp ba st mo a = nameAt cs sp ba st mo b := congrArg (fun s : Str => s.cps.toList) e
    unfold nameAt at e
    simp only [List.append_assoc] at e
    have e := List.append_cancel_left e
    have e := (List.cons.inj e).1
    rw [List.mem_range] at ha hb
    simp only [List.mem_cons, List.not_mem_nil, or_false] at hst
    rcases hst with rfl | rfl | rfl | rfl <;> omega
section
variable {M : Mm} {Q : D → Mm → Prop} {x y : D} {ds : List D} {p : Addr}
theorem lf_inT (h1 : D.ok 60 x = true) (h2 : D.oks 59 ds = true) (h : Q (.bl (D.mem x ds)) M) : pIn false x (.tup ds) M Q := by cases x <;> exact ⟨h1, h2, h⟩
theorem lf_inL (h1 : D.ok 60 x = true) (h2 : D.oks 59 ds = true) (h : Q (.bl (D.mem x ds)) M) : pIn false x (.lst ds) M Q := by cases x <;> exact ⟨h1, h2, h⟩
theorem lf_inP (m : M p = some (.l ds)) (h1 : D.ok 60 x = true) (h2 : D.oks 59 ds = true) (h : Q (.bl (D.mem x ds)) M) : pIn false x (.ptr p) M Q := by cases x <;> exact ⟨_, m, h1, h2, h⟩
theorem lf_ninT (h1 : D.ok 60 x = true) (h2 : D.oks 59 ds = true) (h : Q (.bl (!D.mem x ds)) M) : pIn true x (.tup ds) M Q := by cases x <;> exact ⟨h1, h2, h⟩
theorem lf_ninL (h1 : D.ok 60 x = true) (h2 : D.oks 59 ds = true) (h : Q (.bl (!D.mem x ds)) M) : pIn true x (.lst ds) M Q := by cases x <;> exact ⟨h1, h2, h⟩
theorem lf_ninP (m : M p = some (.l ds)) (h1 : D.ok 60 x = true) (h2 : D.oks 59 ds = true) (h : Q (.bl (!D.mem x ds)) M) : pIn true x (.ptr p) M Q := by cases x <;> exact ⟨_, m, h1, h2, h⟩
theorem lf_eq (h1 : D.ok 60 x = true) (h2 : D.ok 60 y = true) (h : Q (.bl (D.eq x y)) M) : pEq x y M Q := ⟨h1, h2, h⟩
theorem lf_ne (h1 : D.ok 60 x = true) (h2 : D.ok 60 y = true) (h : Q (.bl (!D.eq x y)) M) : pNe x y M Q := ⟨h1, h2, h⟩
theorem mem_nil : D.mem x [] = false := rfl
theorem mem_cons : D.mem x (y :: ds) = (D.eq y x || D.mem x ds) := rfl
theorem lf_slT {lo hi : Option Int} (h : Q (.tup (cutD ds lo hi)) M) : pSl (.tup ds) lo hi M Q := h
theorem cutI_from {n : Int} (h : 0 ≤ n) : cutD ds (some n) none = ds.drop n.toNat := by
  obtain ⟨k, rfl⟩ : ∃ k : Nat, n = k := ⟨n.toNat, by omega⟩
  exact cutD_from
theorem cutI_to {n : Int} (h : 0 ≤ n) : cutD ds none (some n) = ds.take n.toNat := by
  obtain ⟨k, rfl⟩ : ∃ k : Nat, n = k := ⟨n.toNat, by omega⟩
  exact cutD_to
theorem cutI_mid {m n : Int} (h : 0 ≤ m) (h2 : m ≤ n) : cutD ds (some m) (some n) = (ds.take n.toNat).drop m.toNat := by
  obtain ⟨k, rfl⟩ : ∃ k : Nat, n = k := ⟨n.toNat, by omega⟩
  obtain ⟨j, rfl⟩ : ∃ k : Nat, m = k := ⟨m.toNat, by omega⟩
  unfold cutD
  rw [HT.sIx_nat, HT.sIx_nat, Int.toNat_natCast, Int.toNat_natCast, List.drop_take]
  by_cases h : k ≤ ds.length
  · rw [Nat.min_eq_left h, Nat.min_eq_left (by omega)]
  · rw [Nat.min_eq_right (by omega)]
    by_cases h3 : j ≤ ds.length
    · rw [Nat.min_eq_left h3, List.take_of_length_le (by rw [List.length_drop]; omega), List.take_of_length_le (by rw [List.length_drop]; omega)]
    · rw [Nat.min_eq_right (by omega), List.drop_of_length_le (Nat.le_refl _), List.drop_of_length_le (by omega)]; simp
theorem sIxI {n d : Nat} {k : Int} (h : 0 ≤ k) : HT.sIx n d (some k) = min k.toNat n := by
  obtain ⟨j, rfl⟩ : ∃ j : Nat, k = j := ⟨k.toNat, by omega⟩
  rw [HT.sIx_nat]; rfl
theorem lf_slTto {n : Int} (z : 0 ≤ n) (h : Q (.tup (ds.take n.toNat)) M) : pSl (.tup ds) none (some n) M Q := lf_slT (by rw [cutI_to z]; exact h)
theorem lf_slTfr {n : Int} (z : 0 ≤ n) (h : Q (.tup (ds.drop n.toNat)) M) : pSl (.tup ds) (some n) none M Q := lf_slT (by rw [cutI_from z]; exact h)
theorem lf_slTmid {m n : Int} (z : 0 ≤ m) (z2 : m ≤ n) (h : Q (.tup ((ds.take n.toNat).drop m.toNat)) M) : pSl (.tup ds) (some m) (some n) M Q := lf_slT (by rw [cutI_mid z z2]; exact h)
theorem cutI_neg {n : Int} (h : n < 0) : cutD ds none (some n) = ds.take (ds.length - (-n).toNat) := by
  unfold cutD
  have e : HT.sIx ds.length ds.length (some n) = ds.length - (-n).toNat := by
    show (if n < 0 then (n + (ds.length : Int)).toNat else min n.toNat ds.length) = _
    rw [if_pos h]; omega
  rw [e, HT.sIx_none, List.drop_zero, Nat.sub_zero]
theorem lf_slTneg {n : Int} (z : n < 0) (h : Q (.tup (ds.take (ds.length - (-n).toNat))) M) : pSl (.tup ds) none (some n) M Q := lf_slT (by rw [cutI_neg z]; exact h)
theorem lf_slLneg {n : Int} (z : n < 0) (h : Q (.lst (ds.take (ds.length - (-n).toNat))) M) : pSl (.lst ds) none (some n) M Q := lf_slL (by rw [cutI_neg z]; exact h)
theorem lf_addT {es : List D} (l : ds.length + es.length ≤ sizeLine) (h : Q (.tup (ds ++ es)) M) : pAdd (.tup ds) (.tup es) M Q := ⟨l, h⟩
theorem lf_mulL {n : Int} (l : ds.length * n.toNat ≤ 1000000) (l1 : n < 1000000) (l2 : -1000000 < n) (h : Q (.lst (List.replicate n.toNat ds).flatten) M) : pMul (.lst ds) (.int n) M Q := ⟨by omega, by omega, by rw [sizeLine_eq]; omega, h⟩
theorem lf_slLto {n : Int} (z : 0 ≤ n) (h : Q (.lst (ds.take n.toNat)) M) : pSl (.lst ds) none (some n) M Q := lf_slL (by rw [cutI_to z]; exact h)
theorem lf_slLfr {n : Int} (z : 0 ≤ n) (h : Q (.lst (ds.drop n.toNat)) M) : pSl (.lst ds) (some n) none M Q := lf_slL (by rw [cutI_from z]; exact h)
theorem lf_slLmid {m n : Int} (z : 0 ≤ m) (z2 : m ≤ n) (h : Q (.lst ((ds.take n.toNat).drop m.toNat)) M) : pSl (.lst ds) (some m) (some n) M Q := lf_slL (by rw [cutI_mid z z2]; exact h)
end
theorem lf_kwl {a b : Nat} {A : Prop} (e : a = b) (h : A) : a = b ∧ A := ⟨e, h⟩
theorem NameS.small {s : Str} (h : NameS s) : s.cps.toList.length ≤ 8 := h.2.1
theorem nameS_ok {s : Str} (h : NameS s) : PyData.strOk s = true := by
  unfold PyData.strOk
  rw [Array.all_eq_true']
  intro c hc
  have := h.2.2 c (by simpa using hc)
  exact decide_eq_true (by omega)
section
variable {n : Nat} {ds : List D} {d : D} {A B : Prop} {s : Str}
theorem lf_nT (h : B) : ((!true) = true → A) ∧ ((!true) = false → B) := ⟨fun e => (by cases e), fun _ => h⟩
theorem lf_nF (h : A) : ((!false) = true → A) ∧ ((!false) = false → B) := ⟨fun _ => h, fun e => (by cases e)⟩
theorem sm_lst (l : ds.length ≤ 1000000) (h : D.sms n ds = true) : D.sm (n + 1) (.lst ds) = true := by
  show (decide (ds.length ≤ 1000000) && D.sms n ds) = true
  rw [Bool.and_eq_true]; exact ⟨decide_eq_true l, h⟩
theorem sm_tup (l : ds.length ≤ 1000000) (h : D.sms n ds = true) : D.sm (n + 1) (.tup ds) = true := by
  show (decide (ds.length ≤ 1000000) && D.sms n ds) = true
  rw [Bool.and_eq_true]; exact ⟨decide_eq_true l, h⟩
theorem sm_int {i : Int} : D.sm n (.int i) = true := by cases n <;> rfl
theorem sm_bl {i : Bool} : D.sm n (.bl i) = true := by cases n <;> rfl
theorem sm_non : D.sm n .non = true := by cases n <;> rfl
theorem sm_str (h : PyData.strOk s = true) (l : s.cps.toList.length ≤ 1000000) : D.sm n (.str s) = true := by cases n <;> (simp only [D.sm, Bool.and_eq_true]; exact ⟨h, decide_eq_true l⟩)
theorem sms_nil : D.sms n [] = true := rfl
theorem sms_cons (h : D.sm n d = true) (t : D.sms n ds = true) : D.sms n (d :: ds) = true := by
  show (D.sm n d && D.sms n ds) = true
  rw [Bool.and_eq_true]; exact ⟨h, t⟩
theorem sms_of {α : Type} {f : α → D} {l : List α} (h : ∀ x ∈ l, D.sm n (f x) = true) : D.sms n (l.map f) = true := D.sms_of fun d hd => by
  obtain ⟨x, hx, rfl⟩ := List.mem_map.mp hd
  exact h x hx
end
/-- the law's end: from its promise over data to the walk that the head asks -/
def spLaw : SpD := fun ds M Q _ => ∃ ns, ds = [.scr ns] ∧ ns.length ≤ 63 ∧ ∀ M', Q (.bl true) M'
theorem law_walk {l : PySem.W.OpenLaw} {q : Program} {loose : List Str} {XP : (Str → Option Value) → Heap → Prop} {YP : World → Heap → Prop} {d : DefRec} {K : Params → PySem.W.Frag} {x : Str} {st : Stmt} {k : Nat} (hn : l.most = some 63) (hdf : d.params.defaults = [])
    (hY : ∀ (w : World) (h : Heap), YP w h → (K w.params).In h) (hd : d.name = "law") (hr : Room k callerA)
    (hbd : ∀ (kV doc pm : Value) (an : Option Addr) (cdv ct : Value) (u : Value), bindArgs (PySem.W.fnOf "law" "law" (defArgs st) (defBody st) (defScope st) .none kV doc pm an cdv ct) ⟨[u], []⟩ = pure [(x, u)])
    (F : ∀ (w : World) (mg : Str → Option Value) (h : Heap), (K w.params).In h → h.Ns mainGlobals mg → TopFn (K w.params) mg "law" st ∧
      ∀ fd, Fun (K w.params) "law" "law" st (ca mg "law") fd → mg "law" = some (.ref (ca mg "law")) → ∀ base : Heap, FnOk l.prog w (K w.params) mg base (L2.CX l.prog w) k (ca mg "law") fd [x] (spD (K w.params) mg spLaw)) :
    PySem.W.WalkO q loose XP YP l.row.toRowW d [] (fun f vs => PySem.call f vs) := by
  refine L2.walk_of (n := 63) (k := k) (x := x) (CX := fun w => L2.CX l.prog w) (sp := fun w => fun vs H Q E => ∃ (a : Addr) (ns : List Int), vs = [.ref a] ∧ ns.length ≤ 63 ∧ SqL (K w.params) H a (ns.map V.int) ∧ ∀ H', Q (.bl true) H') hn (by decide) hdf hr hY ?_ ?_ ?_
  · intro w mg fa h KX G hmg
    rw [hd] at hmg
    obtain ⟨⟨gm, fd, Fu⟩, FF⟩ := F w mg h KX G
    have e : ca mg "law" = fa := Value.ref.inj (Option.some.inj (gm.symm.trans hmg))
    have FF := FF fd Fu gm
    rw [e] at Fu FF
    refine ⟨fd, fun s u => ?_, fun base _ _ => (FF base).imp ?_⟩
    · obtain ⟨_, _, kV, doc, pm, an, cdv, ct, _, hfd, _, _⟩ := Fu.ex
      rw [hfd]
      exact .of_eq (hbd kV doc pm an cdv ct u)
    · rintro vs H Q E ⟨a, ns, rfl, hl, hS, hq⟩
      refine ⟨fun _ => none, H, [.scr ns], fun _ => none, fun d _ => d = .bl true, fun _ _ _ => False, ⟨Ex.refl _, (fun p c h => by cases h), (fun p o h => by cases h)⟩, .cons (.scr hS) .nil, ⟨ns, rfl, hl, fun _ => rfl⟩, ?_, fun _ _ _ _ _ _ _ z => z.elim⟩
      rintro v H' Hb' d M' rfl _ _ r
      rw [rep_bl r]; exact hq H'
  · intro w H a ns hl hO hS
    exact ⟨a, ns, rfl, hl, hS, fun _ => rfl⟩
  · rintro w H s e s' ⟨_, _, _, _, _, _, _, _, _, _, _, _, z⟩
    exact z
end L3
/-! ### 31. (a, *b) = a list, a tuple -/
namespace L3
open PySem PySem.Spec PySem.Calls PySem.W PyProof.Rows L2
section
variable {prog : Program} {w : World} {A : Around} {E : Value → Shared → Prop} {s : Shared}
theorem star_listI {l : Addr} {its : Array Value} {i : Nat} {Q : List Value → Shared → Prop} (hl : s.heap.IsList l its) (hh : A.handled = none) (hi : i ≤ its.size) (hz : its.size ≤ 1000000)
    (h : ∀ h' tk, Heap.ExtBut s.heap.objs.size s.heap h' → Q (its.toList.take i ++ [.ref h'.objs.size]) { s with heap := h'.push { cls := .type "list", data := .seq (its.toList.drop i).toArray }, toks := tk }) :
    wpAny (model prog w) A (unpackItems (.ref l) (i + 1) (some i)) Q E s := by
  obtain ⟨o, ho, hrest⟩ := id hl
  have ne : l ≠ s.heap.objs.size := Nat.ne_of_lt (Heap.lt_size ho)
  unfold unpackItems; refine wpAny_bind ?_
  unfold notIterableAtAll; refine wpAny_bind (wpAny_specialOf hl.typeIs slot_list_iter.lookup (wpAny_pure ?_))
  simp only [Bool.false_eq_true, if_false]; refine wpAny_bind (wpAny_holding (wpAny_pyIter_list hl ?_))
  refine wpAny_bind (wpAny_holding (kun_draw ne i 0 _ _ ⟨_, Heap.get?_push_size _ rfl, rfl, rfl⟩ (hl.push _) (by omega) fun h1 it1 sb => ?_))
  have hl1 : h1.IsList l its := (hl.push _).extBut sb.extBut ne
  rw [Nat.zero_add] at it1; rw [List.drop_zero]
  obtain ⟨o1, e1, _⟩ := id it1; obtain ⟨o2, e2, _⟩ := id hl1
  have fl : (its.toList.take i).length = i := by rw [List.length_take, Array.length_toList]; omega
  rw [if_neg (show ¬ (its.toList.take i).length < i by omega)]
  refine wpAny_bind (wpAny_holding (kun_collect (s := { s with heap := h1 }) (T := "list_iterator") (.inr (.inr (.inl rfl))) (Walks.list (A := A.in1) hh s.heap.objs.size l ne its) (fun _ _ st => st.1.typeIs) hi ⟨it1, hl1⟩ (Heap.lt_size e1) (Heap.lt_size e2) (fun h2 tk hk => ?_) (by rw [sizeLine_eq]; omega)))
  have e0 : i + 1 - 1 - i = 0 := by omega
  simp only [e0, Nat.not_lt_zero, if_false, Nat.sub_zero]
  rw [List.take_of_length_le (Nat.le_refl _), List.drop_of_length_le (Nat.le_refl _)]
  have ex : Heap.ExtBut s.heap.objs.size s.heap h2 := fun b o hb e => hk b o hb (sb.extBut b o hb (Heap.get?_push_of_some _ e))
  refine wpAny_bind (wpAny_newList (s := { s with heap := h2, toks := tk }) (wpAny_pure ?_) (by rw [List.length_drop, Array.length_toList, sizeLine_eq]; omega))
  rw [List.append_nil]
  exact h h2 tk ex
theorem star_tupI {l : Addr} {its : Array Value} {i : Nat} {Q : List Value → Shared → Prop} (hl : IsTup s.heap l its) (hh : A.handled = none) (hi : i ≤ its.size) (hz : its.size ≤ 1000000)
    (h : ∀ h' tk, Heap.ExtBut s.heap.objs.size s.heap h' → Q (its.toList.take i ++ [.ref h'.objs.size]) { s with heap := h'.push { cls := .type "list", data := .seq (its.toList.drop i).toArray }, toks := tk }) :
    wpAny (model prog w) A (unpackItems (.ref l) (i + 1) (some i)) Q E s := by
  obtain ⟨o, ho, hrest⟩ := id hl
  have ne : l ≠ s.heap.objs.size := Nat.ne_of_lt (Heap.lt_size ho)
  unfold unpackItems; refine wpAny_bind ?_
  unfold notIterableAtAll; refine wpAny_bind (wpAny_specialOf hl.typeIs slot_tuple_iter.lookup (wpAny_pure ?_))
  simp only [Bool.false_eq_true, if_false]; refine wpAny_bind (wpAny_holding (iter_tuple hl ?_))
  refine wpAny_bind (wpAny_holding (draw_tuple ne i 0 _ _ ⟨_, Heap.get?_push_size _ rfl, rfl, rfl⟩ (hl.push _) (by omega) fun h1 it1 sb => ?_))
  have hl1 : IsTup h1 l its := (hl.push _).extBut sb.extBut ne
  rw [Nat.zero_add] at it1; rw [List.drop_zero]
  obtain ⟨o1, e1, _⟩ := id it1; obtain ⟨o2, e2, _⟩ := id hl1
  have fl : (its.toList.take i).length = i := by rw [List.length_take, Array.length_toList]; omega
  rw [if_neg (show ¬ (its.toList.take i).length < i by omega)]
  refine wpAny_bind (wpAny_holding (kun_collect (s := { s with heap := h1 }) (T := "tuple_iterator") (.inr (.inr (.inr rfl))) (Walks.tuple (A := A.in1) hh s.heap.objs.size l ne its) (fun _ _ st => st.1.typeIs) hi ⟨it1, hl1⟩ (Heap.lt_size e1) (Heap.lt_size e2) (fun h2 tk hk => ?_) (by rw [sizeLine_eq]; omega)))
  have e0 : i + 1 - 1 - i = 0 := by omega
  simp only [e0, Nat.not_lt_zero, if_false, Nat.sub_zero]
  rw [List.take_of_length_le (Nat.le_refl _), List.drop_of_length_le (Nat.le_refl _)]
  have ex : Heap.ExtBut s.heap.objs.size s.heap h2 := fun b o hb e => hk b o hb (sb.extBut b o hb (Heap.get?_push_of_some _ e))
  refine wpAny_bind (wpAny_newList (s := { s with heap := h2, toks := tk }) (wpAny_pure ?_) (by rw [List.length_drop, Array.length_toList, sizeLine_eq]; omega))
  rw [List.append_nil]
  exact h h2 tk ex
end
section
variable {X : Cx} {pos : Pos}
/-- a, *b = v -/
def gStar (K : PySem.W.Frag) (i : Nat) (t : TGs) : TG := fun v σ H Q => ∃ a xs, v = .ref a ∧ (SqT K H a xs ∨ SqL K H a xs) ∧ i ≤ xs.length ∧ xs.length ≤ 1000000 ∧ ∀ d, H d = none → t (xs.take i ++ [.ref d]) σ (upd H d (.lst (xs.drop i))) Q
theorem vals_take {vs : List V} {us : List Value} (r : Vals vs us) : ∀ i : Nat, Vals (vs.take i) (us.take i) := by
  induction r with
  | nil => intro i; simp; exact .nil
  | cons a b ih =>
    intro i
    cases i with
    | zero => exact .nil
    | succ i => exact .cons a (ih i)
theorem vals_drop {vs : List V} {us : List Value} (r : Vals vs us) : ∀ i : Nat, Vals (vs.drop i) (us.drop i) := by
  induction r with
  | nil => intro i; simp; exact .nil
  | cons a b ih =>
    intro i
    cases i with
    | zero => exact .cons a b
    | succ i => exact ih i
theorem pg_star {es : List Expr} {k i : Nat} {t : TGs} (hc : X.calm = true) (h : PGs X es t) (hn : (assignEach es X.env).length = i + 1) (hst : (assignEach es X.env).findIdx? (·.1) = some i) : PG X (.Tuple es k pos) (gStar X.K i t) := by
  refine ⟨fun pins s σ H v u Q I r ⟨a, xs, ev, hq, h1, h2, hw⟩ => ?_⟩
  subst ev
  cases r
  have fin : ∀ (its : List Value) (h' : Heap) (tk : Nat), Vals xs its → Heap.ExtBut s.heap.objs.size s.heap h' → wpAny (model X.prog X.w) X.A (assignInOrder ((assignEach es X.env).map (·.2)) (its.take i ++ [.ref h'.objs.size])) (fun _ s' => ∃ σ' H', Inv X pins σ' H' s' ∧ Q σ' H') X.xe { s with heap := h'.push { cls := .type "list", data := .seq (its.drop i).toArray }, toks := tk } := by
    intro its h' tk rv ex
    have I1 : Inv X pins σ H { s with heap := h', toks := tk } := Inv.kept I fun b u e => ex b u (Nat.ne_of_lt (Heap.lt_size e)) e
    have nf : H h'.objs.size = none := HOk.fresh I1.hok (Nat.le_refl _)
    have I2 : Inv X pins σ (upd H h'.objs.size (.lst (xs.drop i))) { s with heap := h'.push { cls := .type "list", data := .seq (its.drop i).toArray }, toks := tk } :=
      Inv.laid (s := { s with heap := h', toks := tk }) I1 (t' := tk) (fun b u e => Heap.get?_push_of_some _ e) (Nat.le_refl _) ⟨by rw [List.length_drop, sizeLine_eq]; omega, its.drop i, 0, vals_drop rv i, Heap.get?_push_size _ rfl⟩
    exact h.run pins _ σ _ _ _ Q I2 (Vals.append (vals_take rv i) (.cons (show RelV (.ref h'.objs.size) (.ref h'.objs.size) from rfl) .nil)) (hw _ nf)
  rw [assign_Tuple]
  refine wpAny_bind (wpAny_standAt ?_)
  unfold unpack
  rw [hn, hst]
  rcases hq with hq | hq
  · obtain ⟨its, rv, p, hz⟩ := Inv.tuple I hq
    refine wpAny_bind (wpAny_holding (star_tupI (its := its.toArray) p (I.ok.hd hc) (by rw [List.size_toArray, ← rv.length]; exact h1) (by rw [List.size_toArray, ← rv.length]; exact h2) fun h' tk ex => ?_))
    exact fin its h' tk rv ex
  · obtain ⟨its, rv, p, hz⟩ := Inv.list I hq
    refine wpAny_bind (wpAny_holding (star_listI (its := its.toArray) p.isList (I.ok.hd hc) (by rw [List.size_toArray, ← rv.length]; exact h1) (by rw [List.size_toArray, ← rv.length]; exact h2) fun h' tk ex => ?_))
    exact fin its h' tk rv ex
end
section
variable {X : Cx} {w : Wi} {Γ : Ga} {M : Mm} {vs : List Nat} {QG : Ga → Mm → Prop} {es : List Expr} {e : Expr} {d : D} {ds : List D} {k kk i : Nat} {n : Nm} {pos p : Pos}
theorem rep_take {K : PySem.W.Frag} {mg : Str → Option Value} {Hb H : Hp} {v : V} {d : D} {ds : List D} (r : Rep K mg Hb v d) (e : Ex Hb H) (h : d.seq = some ds) : ∃ a us, v = .ref a ∧ (SqT K H a us ∨ SqL K H a us) ∧ Reps K mg Hb us ds := rep_seq r e h
theorem dgv_star (S : Sc X k n) (hd : d.seq = some ds) (hi : i ≤ ds.length) (hz : ds.length ≤ 1000000) (hn : (assignEach es X.env).length = i + 1) (hst : (assignEach es X.env).findIdx? (·.1) = some i) (h : DGs X w vs es (ds.take i ++ [.lst (ds.drop i)]) Γ M QG) : DGV X w vs (.Tuple es kk pos) d Γ M QG := .mk fun F σ H Hb v A r => by
  obtain ⟨a, us, ev, hq, rs⟩ := rep_seq r A.hs.ex hd
  have el := rs.length
  refine semG_of (pg_star S.calm semGs_ok hn hst) ⟨a, us, ev, hq, by rw [el]; exact hi, by rw [el]; exact hz, fun q nq => ?_⟩
  obtain ⟨ex, A2⟩ := A.new nq (.lst (us.drop i))
  have hq2 := h.run F σ _ _ _ A2 (((rs.take i).mono ex).append (.cons (.lst upd_same ((rs.drop i).mono ex)) .nil))
  exact semGs_mono hq2 fun σ2 H2 ⟨w2, q2⟩ => ⟨w2, q2.back ex⟩
theorem dgs_consS (hs : (assignEach (.Starred e p :: es) X.env).map (·.2) = assign e X.env :: (assignEach es X.env).map (·.2)) (h : DGV X w vs e d Γ M fun Γ1 M1 => DGs X w vs es ds Γ1 M1 QG) : DGs X w vs (.Starred e p :: es) (d :: ds) Γ M QG := .mk fun F σ H Hb us A r => by
  cases r with
  | cons r1 r2 =>
    have z : PGs X (.Starred e p :: es) (gCons (semG X e) (semGs X es)) := .mk fun pins s σ' H' ws us' Q' I rr ⟨v1, vr, e1, z1⟩ => by
      subst e1
      cases rr with
      | cons a b =>
        rw [hs]
        exact assignInOrder_cons (thn (PG.run semG_ok pins s σ' H' _ _ _ I a z1) fun _ s1 ⟨σ1, H1, I1, q1⟩ => PGs.run semGs_ok pins s1 σ1 H1 _ _ _ I1 b q1)
    refine semGs_of z ⟨_, _, rfl, ?_⟩
    refine semG_mono (h.run F σ H Hb _ A r1) fun σ1 H1 ⟨w1, Hb1, Γ1, M1, e1, A1, q1⟩ => ?_
    exact semGs_mono (q1.run F σ1 H1 Hb1 _ A1 (r2.mono e1)) fun σ2 H2 ⟨w2, q2⟩ => ⟨w2.trans w1, q2.back e1⟩
theorem dg_tupA (S : Sc X k n) (hd : d.seq = some ds) (hn : (assignEach es X.env).length = ds.length) (hst : (assignEach es X.env).findIdx? (·.1) = none) (h : DGs X w (List.range 64) es ds Γ M QG) : DG X w (.Tuple es kk pos) d Γ M QG := dg_dgv (dgv_tup S hd hn hst h)
theorem dg_starA (S : Sc X k n) (hd : d.seq = some ds) (hn : (assignEach es X.env).length = i + 1) (hst : (assignEach es X.env).findIdx? (·.1) = some i) (hi : i ≤ ds.length) (hz : ds.length ≤ 1000000) (h : DGs X w (List.range 64) es (ds.take i ++ [.lst (ds.drop i)]) Γ M QG) : DG X w (.Tuple es kk pos) d Γ M QG := dg_dgv (dgv_star S hd hi hz hn hst h)
theorem hGs (h : DGs X w vs es ds Γ M QG) : DGs X w vs es ds Γ M QG := h
theorem hGV (h : DGV X w vs e d Γ M QG) : DGV X w vs e d Γ M QG := h
end
/-! ### 32. Constants of the module; what is walked; chains -/
/-- the module's name x holds the constant d -/
structure Gc (mg : Str → Option Value) (x : Str) (d : D) : Prop where
  ex : ∃ v u, mg x = some u ∧ RelV v u ∧ ∀ K mg' Hb, Rep K mg' Hb v d
theorem Gc.str {K : PySem.W.Frag} {h : Heap} {mg : Str → Option Value} {x s : Str} {t : Tok} (X : K.In h) (G : h.Ns mainGlobals mg) (a : PySem.W.nsIn K mainGlobals x = some (some (.str s t))) : Gc mg x (.str s) := ⟨.str s, _, PySem.W.mg_of X G a, ⟨t, rfl⟩, fun _ _ _ => .str⟩
theorem Gc.int {K : PySem.W.Frag} {h : Heap} {mg : Str → Option Value} {x : Str} {i : Int} {t : Tok} (X : K.In h) (G : h.Ns mainGlobals mg) (a : PySem.W.nsIn K mainGlobals x = some (some (.int i t))) : Gc mg x (.int i) := ⟨.int i, _, PySem.W.mg_of X G a, ⟨t, rfl⟩, fun _ _ _ => .int⟩
section
variable {X : Cx} {w : Wi} {Γ : Ga} {M : Mm} {Q : D → Mm → Prop} {QL : List D → Mm → Prop} {x : Str} {d : D} {k : Nat} {n : Nm} {pos : Pos} {tg iter : Expr}
theorem de_glob (S : Sc X k n) (hx : x ∈ n.glb) (g : Gc X.mg x d) (q : Q d M) : DE X w (.Name x pos) Γ M Q := .mk fun F σ H Hb A => by
  obtain ⟨v, u, h1, h2, h3⟩ := g.ex
  exact semE_of (pe_glob (S.gl x hx).1 h1 h2 (okN_d (S.gl x hx).2)) (A.val (Ex.refl _) (h3 _ _ _) q)
def chD (s : Str) : List D := s.cps.toList.map fun c => .str (tx [c])
theorem itd_str {s : Str} {Hb : Hp} : ItD X (Its s) (chD s) Hb := fun i F Hb' H M e hs => by
  unfold chD
  rw [List.length_map]
  refine ⟨fun hi => ⟨show i < s.cps.size by simpa using hi, fun v H' ⟨e1, c, e2, e3⟩ => ?_⟩, fun hi => show s.cps.size ≤ i by simpa using hi⟩
  subst e1 e3
  refine ⟨Hb', .str (tx [c]), Ex.refl _, hs, ?_, .str⟩
  rw [List.getElem?_map, Array.getElem?_toList, e2]; rfl
/-- what a for walks: a list, a tuple, a text -/
theorem di_it (h : DE X w iter Γ M fun d M1 => (∃ ds, d.seq = some ds ∧ QL ds M1) ∨ ∃ s, d = .str s ∧ QL (chD s) M1) : DI X w tg iter Γ M QL := .mk fun F σ H Hb A => by
  intro pins s I
  refine thn (h.run F σ H Hb A pins s I) fun u s1 ⟨v, H1, I1, r1, Hb1, d, M1, e1, A1, rr, q⟩ => ?_
  rcases q with ⟨ds, hd, q⟩ | ⟨z, rfl, q⟩
  · cases rr with
    | tup h1 h2 =>
      cases hd; cases r1
      exact walkT I1 (ex_t A1.hs.ex h1) ⟨Hb1, M1, _, e1, A1, itd_tup h1 h2, q⟩
    | lst h1 h2 =>
      cases hd; cases r1
      exact walkL I1 (SqL.of (A1.hs.ex _ _ h1)) ⟨Hb1, M1, _, e1, A1, itd_list h1 h2, q⟩
    | _ => cases hd
  · cases rr
    obtain ⟨t, rfl⟩ := r1
    have fin : ∃ Hb1' M1' ds, Ex Hb Hb1' ∧ At X w F Hb1' H1 σ Γ M1' ∧ ItD X (Its z) ds Hb1' ∧ QL ds M1' := ⟨Hb1, M1, _, e1, A1, itd_str, q⟩
    cases ha : z.cps.all (· < 128)
    · exact wpAny_pyIter_wide ha ⟨_, [s1.heap.objs.size], _, _, H1, rfl, Inv.kept I1 (t' := s1.toks) (fun _ _ e => Heap.get?_push_of_some _ e), turn_str _ z t "str_iterator" (.inr rfl), ⟨_, Heap.get?_push_size _ rfl, rfl, rfl⟩, fp_one I1, fin⟩
    · exact wpAny_pyIter_ascii ha ⟨_, [s1.heap.objs.size], _, _, H1, rfl, Inv.kept I1 (t' := s1.toks) (fun _ _ e => Heap.get?_push_of_some _ e), turn_str _ z t "str_ascii_iterator" (.inl rfl), ⟨_, Heap.get?_push_size _ rfl, rfl, rfl⟩, fp_one I1, fin⟩
theorem lf_itL {ds : List D} {R : List D → Prop} {B : Prop} (h : R ds) : (∃ xs, D.seq (.lst ds) = some xs ∧ R xs) ∨ B := .inl ⟨_, rfl, h⟩
theorem lf_itT {ds : List D} {R : List D → Prop} {B : Prop} (h : R ds) : (∃ xs, D.seq (.tup ds) = some xs ∧ R xs) ∨ B := .inl ⟨_, rfl, h⟩
theorem lf_itS {s : Str} {R : Str → Prop} {B : Prop} (h : R s) : B ∨ ∃ z, D.str s = .str z ∧ R z := .inr ⟨_, rfl, h⟩
/-- the cases of a plain value -/
theorem D.smc {n : Nat} {d : D} (h : D.sm n d = true) : d = .non ∨ (∃ b, d = .bl b) ∨ (∃ i, d = .int i) ∨ (∃ l, d = .str (tx l) ∧ l.length ≤ 1000000) ∨ (∃ ds, d = .tup ds) ∨ ∃ ds, d = .lst ds := by
  cases d with
  | non => exact .inl rfl
  | bl b => exact .inr (.inl ⟨_, rfl⟩)
  | int i => exact .inr (.inr (.inl ⟨_, rfl⟩))
  | str s => exact .inr (.inr (.inr (.inl ⟨s.cps.toList, rfl, by cases n <;> (simp only [D.sm, Bool.and_eq_true] at h; exact of_decide_eq_true h.2)⟩)))
  | tup ds => exact .inr (.inr (.inr (.inr (.inl ⟨_, rfl⟩))))
  | lst ds => exact .inr (.inr (.inr (.inr (.inr ⟨_, rfl⟩))))
  | _ => cases n <;> cases h
theorem sm_okk {n : Nat} {d : D} (h : D.sm n d = true) (l : n ≤ 60) : D.ok 60 d = true := D.ok_le (D.sm_ok h) l
theorem sm_strok {n : Nat} {s : Str} (h : D.sm n (.str s) = true) : PyData.strOk s = true ∧ s.cps.toList.length ≤ 1000000 := by
  cases n <;> (simp only [D.sm, Bool.and_eq_true] at h; exact ⟨h.1, of_decide_eq_true h.2⟩)
theorem sm_lsts {n : Nat} {ds : List D} (h : D.sm n (.lst ds) = true) : ∃ m, n = m + 1 ∧ ds.length ≤ 1000000 ∧ D.sms m ds = true := by
  cases n with
  | zero => cases h
  | succ m => simp only [D.sm, Bool.and_eq_true] at h; exact ⟨m, rfl, of_decide_eq_true h.1, h.2⟩
theorem sm_tups {n : Nat} {ds : List D} (h : D.sm n (.tup ds) = true) : ∃ m, n = m + 1 ∧ ds.length ≤ 1000000 ∧ D.sms m ds = true := by
  cases n with
  | zero => cases h
  | succ m => simp only [D.sm, Bool.and_eq_true] at h; exact ⟨m, rfl, of_decide_eq_true h.1, h.2⟩
theorem sms_consI {n : Nat} {d : D} {ds : List D} (h : D.sms n (d :: ds) = true) : D.sm n d = true ∧ D.sms n ds = true := by
  simpa [D.sms, Bool.and_eq_true] using h
end
section
variable {M : Mm} {Q : D → Mm → Prop} {α : Type} {p : α → Bool} {l : List α} {A B : Bool → Prop} {k : Nat} {s : Str}
theorem lf_nbT (h : B false) : ∃ c', D.bl (!true) = .bl c' ∧ (c' = true → A c') ∧ (c' = false → B c') := ⟨false, rfl, fun e => (by cases e), fun _ => h⟩
theorem lf_nbF (h : A true) : ∃ c', D.bl (!false) = .bl c' ∧ (c' = true → A c') ∧ (c' = false → B c') := ⟨true, rfl, fun _ => h, fun e => (by cases e)⟩
theorem lf_allm (h : Q (.bl (l.all p)) M) : ∃ bs : List Bool, D.lst (l.map fun c => .bl (p c)) = .lst (bs.map .bl) ∧ Q (.bl (bs.all id)) M := ⟨l.map p, by rw [List.map_map]; rfl, by rw [List.all_map]; exact h⟩
theorem lf_anym (h : Q (.bl (l.any p)) M) : ∃ bs : List Bool, D.lst (l.map fun c => .bl (p c)) = .lst (bs.map .bl) ∧ Q (.bl (bs.any id)) M := ⟨l.map p, by rw [List.map_map]; rfl, by rw [List.any_map]; exact h⟩
theorem lf_inS (h : Q (.bl (decide (k ∈ s.cps.toList))) M) : pIn false (.str (tx [k])) (.str s) M Q := ⟨k, rfl, h⟩
theorem lf_ninS (h : Q (.bl (!decide (k ∈ s.cps.toList))) M) : pIn true (.str (tx [k])) (.str s) M Q := ⟨k, rfl, h⟩
end
theorem qb {Q : D → Mm → Prop} {b c : Bool} {M : Mm} (q : Q (.bl b) M) (e : b = c) : Q (.bl c) M := e ▸ q
theorem dT {p : Prop} [Decidable p] (h : decide p = true) : p := of_decide_eq_true h
theorem dF {p : Prop} [Decidable p] (h : decide p = false) : ¬ p := of_decide_eq_false h
theorem sm_le {n m : Nat} {d : D} (h : D.sm n d = true) (l : n ≤ m) : D.sm m d = true := by
  have up : (∀ n (d : D), D.sm n d = true → D.sm (n + 1) d = true) := by
    intro n
    induction n with
    | zero => intro d h; cases d <;> first | exact h | cases h
    | succ n ih =>
      intro d h
      have all : ∀ ds : List D, D.sms n ds = true → D.sms (n + 1) ds = true := fun ds hd => D.sms_of fun x hx => ih x (D.sms_mem hd hx)
      cases d with
      | tup ds => simp only [D.sm, Bool.and_eq_true] at h ⊢; exact ⟨h.1, all ds h.2⟩
      | lst ds => simp only [D.sm, Bool.and_eq_true] at h ⊢; exact ⟨h.1, all ds h.2⟩
      | _ => first | exact h | cases h
  induction l with
  | refl => exact h
  | step _ ih => exact up _ _ ih
theorem sm7 {d : D} (h : D.sm 7 d = true) : D.sm 8 d = true := sm_le h (by decide)
theorem sm6 {d : D} (h : D.sm 6 d = true) : D.sm 8 d = true := sm_le h (by decide)
section
variable {p : Prop} [Decidable p] {A B : Bool → Prop} {A0 B0 : Prop} {b : Bool}
theorem lf_dcT (h : p) (k : A true) : ∃ c', D.bl (decide p) = .bl c' ∧ (c' = true → A c') ∧ (c' = false → B c') := ⟨true, by rw [decide_eq_true h], fun _ => k, fun e => (by cases e)⟩
theorem lf_dcF (h : ¬ p) (k : B false) : ∃ c', D.bl (decide p) = .bl c' ∧ (c' = true → A c') ∧ (c' = false → B c') := ⟨false, by rw [decide_eq_false h], fun e => (by cases e), fun _ => k⟩
theorem lf_dc2 (k1 : p → A true) (k2 : ¬ p → B false) : ∃ c', D.bl (decide p) = .bl c' ∧ (c' = true → A c') ∧ (c' = false → B c') := by
  by_cases h : p
  · exact lf_dcT h (k1 h)
  · exact lf_dcF h (k2 h)
theorem lf_ndcT (h : p) (k : B false) : ∃ c', D.bl (!decide p) = .bl c' ∧ (c' = true → A c') ∧ (c' = false → B c') := ⟨false, by rw [decide_eq_true h]; rfl, fun e => (by cases e), fun _ => k⟩
theorem lf_ndcF (h : ¬ p) (k : A true) : ∃ c', D.bl (!decide p) = .bl c' ∧ (c' = true → A c') ∧ (c' = false → B c') := ⟨true, by rw [decide_eq_false h]; rfl, fun _ => k, fun e => (by cases e)⟩
theorem lf_ndc2 (k1 : ¬ p → A true) (k2 : p → B false) : ∃ c', D.bl (!decide p) = .bl c' ∧ (c' = true → A c') ∧ (c' = false → B c') := by
  by_cases h : p
  · exact lf_ndcT h (k2 h)
  · exact lf_ndcF h (k1 h)
theorem lf_nd2 (k1 : ¬ p → A0) (k2 : p → B0) : ((!decide p) = true → A0) ∧ ((!decide p) = false → B0) := ⟨fun h => k1 (by simpa using h), fun h => k2 (by simpa using h)⟩
theorem lf_ndT (h : p) (k : B0) : ((!decide p) = true → A0) ∧ ((!decide p) = false → B0) := lf_nd2 (fun z => absurd h z) fun _ => k
theorem lf_ndF (h : ¬ p) (k : A0) : ((!decide p) = true → A0) ∧ ((!decide p) = false → B0) := lf_nd2 (fun _ => k) fun z => absurd z h
theorem lf_nb2 (k1 : b = false → A0) (k2 : b = true → B0) : ((!b) = true → A0) ∧ ((!b) = false → B0) := ⟨fun h => k1 (by simpa using h), fun h => k2 (by simpa using h)⟩
theorem lf_pd2 (k1 : p → A0) (k2 : ¬ p → B0) : ((decide p) = true → A0) ∧ ((decide p) = false → B0) := ⟨fun h => k1 (dT h), fun h => k2 (dF h)⟩
theorem lf_pdT (h : p) (k : A0) : ((decide p) = true → A0) ∧ ((decide p) = false → B0) := lf_pd2 (fun _ => k) fun z => absurd h z
theorem lf_pdF (h : ¬ p) (k : B0) : ((decide p) = true → A0) ∧ ((decide p) = false → B0) := lf_pd2 (fun z => absurd z h) fun _ => k
end
section
variable {b b2 : Bool} {i i2 : Int} {s s2 : Str} {ds ds2 : List D} {n : Nat} {d x y : D} {M : Mm} {Q : D → Mm → Prop} {p : Addr} {c : Bool}
theorem eq_non_bl : D.eq .non (.bl b2) = false := by
  show PyData.eqv .none (.bool b2) = false
  simp [PyData.eqv]
theorem eq_non_int : D.eq .non (.int i2) = false := by
  show PyData.eqv .none (.int i2) = false
  simp [PyData.eqv]
theorem eq_non_str : D.eq .non (.str s2) = false := by
  show PyData.eqv .none (.str s2) = false
  simp [PyData.eqv]
theorem eq_non_tup : D.eq .non (.tup ds2) = false := by
  show PyData.eqv .none (.tuple (D.pys ds2)) = false
  simp [PyData.eqv]
theorem eq_non_lst : D.eq .non (.lst ds2) = false := by
  show PyData.eqv .none (.list (D.pys ds2)) = false
  simp [PyData.eqv]
theorem eq_bl_non : D.eq (.bl b) .non = false := by
  show PyData.eqv (.bool b) .none = false
  simp [PyData.eqv]
theorem eq_bl_str : D.eq (.bl b) (.str s2) = false := by
  show PyData.eqv (.bool b) (.str s2) = false
  simp [PyData.eqv]
theorem eq_bl_tup : D.eq (.bl b) (.tup ds2) = false := by
  show PyData.eqv (.bool b) (.tuple (D.pys ds2)) = false
  simp [PyData.eqv]
theorem eq_bl_lst : D.eq (.bl b) (.lst ds2) = false := by
  show PyData.eqv (.bool b) (.list (D.pys ds2)) = false
  simp [PyData.eqv]
theorem eq_int_non : D.eq (.int i) .non = false := by
  show PyData.eqv (.int i) .none = false
  simp [PyData.eqv]
theorem eq_int_str : D.eq (.int i) (.str s2) = false := by
  show PyData.eqv (.int i) (.str s2) = false
  simp [PyData.eqv]
theorem eq_int_tup : D.eq (.int i) (.tup ds2) = false := by
  show PyData.eqv (.int i) (.tuple (D.pys ds2)) = false
  simp [PyData.eqv]
theorem eq_int_lst : D.eq (.int i) (.lst ds2) = false := by
  show PyData.eqv (.int i) (.list (D.pys ds2)) = false
  simp [PyData.eqv]
theorem eq_str_non : D.eq (.str s) .non = false := by
  show PyData.eqv (.str s) .none = false
  simp [PyData.eqv]
theorem eq_str_bl : D.eq (.str s) (.bl b2) = false := by
  show PyData.eqv (.str s) (.bool b2) = false
  simp [PyData.eqv]
theorem eq_str_int : D.eq (.str s) (.int i2) = false := by
  show PyData.eqv (.str s) (.int i2) = false
  simp [PyData.eqv]
theorem eq_str_tup : D.eq (.str s) (.tup ds2) = false := by
  show PyData.eqv (.str s) (.tuple (D.pys ds2)) = false
  simp [PyData.eqv]
theorem eq_str_lst : D.eq (.str s) (.lst ds2) = false := by
  show PyData.eqv (.str s) (.list (D.pys ds2)) = false
  simp [PyData.eqv]
theorem eq_tup_non : D.eq (.tup ds) .non = false := by
  show PyData.eqv (.tuple (D.pys ds)) .none = false
  simp [PyData.eqv]
theorem eq_tup_bl : D.eq (.tup ds) (.bl b2) = false := by
  show PyData.eqv (.tuple (D.pys ds)) (.bool b2) = false
  simp [PyData.eqv]
theorem eq_tup_int : D.eq (.tup ds) (.int i2) = false := by
  show PyData.eqv (.tuple (D.pys ds)) (.int i2) = false
  simp [PyData.eqv]
theorem eq_tup_str : D.eq (.tup ds) (.str s2) = false := by
  show PyData.eqv (.tuple (D.pys ds)) (.str s2) = false
  simp [PyData.eqv]
theorem eq_tup_lst : D.eq (.tup ds) (.lst ds2) = false := by
  show PyData.eqv (.tuple (D.pys ds)) (.list (D.pys ds2)) = false
  simp [PyData.eqv]
theorem eq_lst_non : D.eq (.lst ds) .non = false := by
  show PyData.eqv (.list (D.pys ds)) .none = false
  simp [PyData.eqv]
theorem eq_lst_bl : D.eq (.lst ds) (.bl b2) = false := by
  show PyData.eqv (.list (D.pys ds)) (.bool b2) = false
  simp [PyData.eqv]
theorem eq_lst_int : D.eq (.lst ds) (.int i2) = false := by
  show PyData.eqv (.list (D.pys ds)) (.int i2) = false
  simp [PyData.eqv]
theorem eq_lst_str : D.eq (.lst ds) (.str s2) = false := by
  show PyData.eqv (.list (D.pys ds)) (.str s2) = false
  simp [PyData.eqv]
theorem eq_lst_tup : D.eq (.lst ds) (.tup ds2) = false := by
  show PyData.eqv (.list (D.pys ds)) (.tuple (D.pys ds2)) = false
  simp [PyData.eqv]
theorem eqs_c0 : PyData.eqvAll (D.pys (d :: ds)) (D.pys []) = false := by
  show PyData.eqvAll (d.py :: _) [] = false
  rw [PyData.eqvAll]
theorem eqs_0c : PyData.eqvAll (D.pys []) (D.pys (d :: ds)) = false := by
  show PyData.eqvAll [] (d.py :: _) = false
  rw [PyData.eqvAll]
theorem eq_nn : D.eq .non .non = true := rfl
theorem ok_int : D.ok n (.int i) = true := by cases n <;> rfl
theorem ok_bl : D.ok n (.bl b) = true := by cases n <;> rfl
theorem ok_non : D.ok n .non = true := by cases n <;> rfl
theorem ok_str (h : PyData.strOk s = true) : D.ok n (.str s) = true := by cases n <;> simpa [D.ok, PyData.canLay0] using h
theorem ok_lst (h : D.oks n ds = true) : D.ok (n + 1) (.lst ds) = true := h
theorem ok_tup (h : D.oks n ds = true) : D.ok (n + 1) (.tup ds) = true := h
theorem oks_nil : D.oks n [] = true := rfl
theorem oks_cons (h : D.ok n d = true) (t : D.oks n ds = true) : D.oks n (d :: ds) = true := by
  show (D.ok n d && D.oks n ds) = true
  rw [Bool.and_eq_true]; exact ⟨h, t⟩
theorem sms_okk {m : Nat} (h : D.sms m ds = true) (l : m ≤ n) : D.oks n ds = true := D.oks_of fun d hd => D.ok_le (D.sm_ok (D.sms_mem h hd)) l
theorem lf_inT' (h1 : D.ok 60 x = true) (h2 : D.oks 59 ds = true) (e : D.mem x ds = c) (h : Q (.bl c) M) : pIn false x (.tup ds) M Q := lf_inT h1 h2 (e ▸ h)
theorem lf_inL' (h1 : D.ok 60 x = true) (h2 : D.oks 59 ds = true) (e : D.mem x ds = c) (h : Q (.bl c) M) : pIn false x (.lst ds) M Q := lf_inL h1 h2 (e ▸ h)
theorem lf_inP' (m : M p = some (.l ds)) (h1 : D.ok 60 x = true) (h2 : D.oks 59 ds = true) (e : D.mem x ds = c) (h : Q (.bl c) M) : pIn false x (.ptr p) M Q := lf_inP m h1 h2 (e ▸ h)
theorem lf_ninT' (h1 : D.ok 60 x = true) (h2 : D.oks 59 ds = true) (e : D.mem x ds = c) (h : Q (.bl (!c)) M) : pIn true x (.tup ds) M Q := lf_ninT h1 h2 (e ▸ h)
theorem lf_ninL' (h1 : D.ok 60 x = true) (h2 : D.oks 59 ds = true) (e : D.mem x ds = c) (h : Q (.bl (!c)) M) : pIn true x (.lst ds) M Q := lf_ninL h1 h2 (e ▸ h)
theorem lf_ninP' (m : M p = some (.l ds)) (h1 : D.ok 60 x = true) (h2 : D.oks 59 ds = true) (e : D.mem x ds = c) (h : Q (.bl (!c)) M) : pIn true x (.ptr p) M Q := lf_ninP m h1 h2 (e ▸ h)
theorem lf_eq' (h1 : D.ok 60 x = true) (h2 : D.ok 60 y = true) (e : D.eq x y = c) (h : Q (.bl c) M) : pEq x y M Q := ⟨h1, h2, e ▸ h⟩
theorem lf_ne' (h1 : D.ok 60 x = true) (h2 : D.ok 60 y = true) (e : D.eq x y = c) (h : Q (.bl (!c)) M) : pNe x y M Q := ⟨h1, h2, e ▸ h⟩
theorem mem_sym : D.mem x ds = ds.any fun z => D.eq z x := rfl
end
theorem lf_mul2 {ds : List D} {M : Mm} {Q : D → Mm → Prop} (l : ds.length ≤ 100000) (h : Q (.lst (ds ++ ds)) M) : pMul (.lst ds) (.int 2) M Q :=
  lf_mulL (by show ds.length * 2 ≤ _; omega) (by decide) (by decide) (by rw [show (2 : Int).toNat = 2 from rfl]; simpa [List.replicate] using h)
section
variable {n : Nat} {ds es : List D}
theorem sms_app (a : D.sms n ds = true) (b : D.sms n es = true) : D.sms n (ds ++ es) = true := D.sms_of fun d hd => by
  rcases List.mem_append.mp hd with h | h
  · exact D.sms_mem a h
  · exact D.sms_mem b h
theorem sms_take (a : D.sms n ds = true) (k : Nat) : D.sms n (ds.take k) = true := D.sms_of fun d hd => D.sms_mem a (List.mem_of_mem_take hd)
theorem sms_drop (a : D.sms n ds = true) (k : Nat) : D.sms n (ds.drop k) = true := D.sms_of fun d hd => D.sms_mem a (List.mem_of_mem_drop hd)
end
def NameL (l : List Nat) : Prop := 1 ≤ l.length ∧ l.length ≤ 8 ∧ ∀ c ∈ l, 97 ≤ c ∧ c ≤ 122
theorem NameS.l {s : Str} (h : NameS s) : NameL s.cps.toList := h
theorem NameL.small {l : List Nat} (h : NameL l) : l.length ≤ 8 := h.2.1
theorem nameL_ok {l : List Nat} (h : NameL l) : PyData.strOk (tx l) = true := nameS_ok (s := tx l) h
def NamesL (n : Nat) (names : List (List Nat)) : Prop := names.length = n ∧ (∀ s ∈ names, NameL s) ∧ names.Nodup
theorem namesL_of {n : Nat} {names : List Str} (h : NamesOk n names) : NamesL n (names.map fun s => s.cps.toList) := by
  obtain ⟨h1, h2, h3⟩ := h
  refine ⟨by simpa using h1, fun l hl => ?_, ?_⟩
  · obtain ⟨s, hs, rfl⟩ := List.mem_map.mp hl
    exact (h2 s hs).l
  · rw [List.Nodup, List.pairwise_map]
    refine List.Pairwise.imp ?_ h3
    intro a b hab e
    exact hab (by rw [tx_of a, tx_of b, e])
inductive AllS : List D → Prop where
  | nil : AllS []
  | cons {s : Str} {ds : List D} : PyData.strOk s = true ∧ s.cps.toList.length ≤ 40 → AllS ds → AllS (.str s :: ds)
inductive AllI : List D → Prop where
  | nil : AllI []
  | cons {i : Int} {ds : List D} : AllI ds → AllI (.int i :: ds)
theorem AllS.get : ∀ {ds : List D} {d : D}, AllS ds → d ∈ ds → ∃ l : List Nat, d = .str (tx l) ∧ PyData.strOk (tx l) = true ∧ l.length ≤ 40
  | _, _, .nil, h => by cases h
  | _, _, .cons a b, h => by
    rcases List.mem_cons.mp h with e | e
    · subst e; exact ⟨_, rfl, a.1, a.2⟩
    · exact AllS.get b e
theorem AllI.get : ∀ {ds : List D} {d : D}, AllI ds → d ∈ ds → ∃ i : Int, d = .int i
  | _, _, .nil, h => by cases h
  | _, _, .cons b, h => by
    rcases List.mem_cons.mp h with e | e
    · subst e; exact ⟨_, rfl⟩
    · exact AllI.get b e
section
variable {a b : List Nat}
theorem stok_iff : PyData.strOk (tx a) = true ↔ ∀ c ∈ a, c < 1114112 := by
  unfold PyData.strOk
  rw [Array.all_eq_true']
  constructor
  · intro h c hc; exact of_decide_eq_true (h c (by simpa using hc))
  · intro h c hc; exact decide_eq_true (h c (by simpa using hc))
theorem stok_app (h : PyData.strOk (tx a) = true) (k : PyData.strOk (tx b) = true) : PyData.strOk (tx (a ++ b)) = true := by
  rw [stok_iff] at *
  intro c hc
  rcases List.mem_append.mp hc with z | z
  · exact h c z
  · exact k c z
theorem stok_take {n : Nat} (h : PyData.strOk (tx a) = true) : PyData.strOk (tx (a.take n)) = true := by
  rw [stok_iff] at *; exact fun c hc => h c (List.mem_of_mem_take hc)
theorem stok_drop {n : Nat} (h : PyData.strOk (tx a) = true) : PyData.strOk (tx (a.drop n)) = true := by
  rw [stok_iff] at *; exact fun c hc => h c (List.mem_of_mem_drop hc)
end
section
variable {X : Cx} {w : Wi} {Γ Γc : Ga} {M : Mm} {Q : D → Mm → Prop} {v : Str} {vp : Pos} {i : Nat} {iter elt c : Expr} {scope : Scope} {k : Nat} {nb : Nm}
/-- a comprehension over data as they come, the memory as it is -/
theorem lcN_id {xs : List D} (g : D → D) (hi : DI X w (.Name v vp) iter Γ M fun ds M1 => ds = xs ∧ M1 = M) (hz : xs.length ≤ sizeLine)
    (he : ∀ x ∈ xs, ∀ s0 H0 C cl fp, Sc (blkX X scope s0 H0 C cl fp) k nb → DE (blkX X scope s0 H0 C cl fp) w.dry elt ((v, i, some x) :: Γc) M fun r M4 => r = g x ∧ M4 = M) (q : Q (.lst (xs.map g)) M) : LcN X w v vp i iter elt [] scope k nb Γ Γc M Q :=
  lcN_map xs (fun x => x) g hz (by simpa using hi) he q
end
end L3
namespace L3
open PySem PySem.Spec PyProof.Rows L2
/-! ### 33. What a saying is -/
def digs : Str := "0123456789"
theorem digs_l : digs.cps.toList = (List.range 10).map (· + 48) := by decide +kernel
theorem mem_digs {c : Nat} : c ∈ digs.cps.toList ↔ 48 ≤ c ∧ c ≤ 57 := by
  rw [digs_l]; simp only [List.mem_map, List.mem_range]
  constructor
  · rintro ⟨a, h, rfl⟩; omega
  · intro h; exact ⟨c - 48, by omega, by omega⟩
def isNum : D → Int → Int → Bool
  | .int i, lo, hi => decide (lo ≤ i) && decide (i ≤ hi)
  | _, _, _ => false
def isName : D → Bool
  | .str s => decide (1 ≤ s.cps.toList.length) && decide (s.cps.toList.length ≤ 8) && s.cps.toList.all fun c => decide (c ∈ abc.cps.toList)
  | _ => false
def isSay : D → Bool
  | .tup (.str w :: b :: rest) => isNum b 0 23 && (if w = "nobody" then rest.isEmpty else match rest with
    | [c] => if w = "is" then isName c else decide ("same" = w ∨ "apart" = w) && isNum c 0 23 && !D.eq c b
    | _ => false)
  | _ => false
theorem isNum_int {b : D} {lo hi : Int} (h : isNum b lo hi = true) : ∃ i, b = .int i ∧ lo ≤ i ∧ i ≤ hi := by
  cases b <;> first | cases h | skip
  rename_i i
  simp only [isNum, Bool.and_eq_true, decide_eq_true_eq] at h
  exact ⟨i, rfl, h.1, h.2⟩
theorem eq_l0 : D.eq (.lst []) (.lst []) = true := by rw [eq_ll]; rfl
theorem eq_l1 {d : D} {ds : List D} : D.eq (.lst (d :: ds)) (.lst []) = false := by
  rw [eq_ll]
  show PyData.eqvAll (d.py :: _) [] = false
  rw [PyData.eqvAll]
theorem ne_is : ¬ (("is" : Str) = "nobody") := by decide +kernel
theorem ne_sn : ¬ (("same" : Str) = "nobody") := by decide +kernel
theorem ne_an : ¬ (("apart" : Str) = "nobody") := by decide +kernel
theorem isName_of {l : List Nat} (h : NameL l) : isName (.str (tx l)) = true := by
  simp only [isName, tx_l, Bool.and_eq_true, decide_eq_true_eq, List.all_eq_true]
  exact ⟨⟨h.1, h.2.1⟩, fun c hc => mem_abc.mpr (h.2.2 c hc)⟩
end L3
open PySem PySem.Spec PyProof.Rows L2 L3
namespace T
def top (i : Nat) : Stmt := PySem.Challenge.pw_labelroam_k01_names_and_sayings_told.main.body.getD i (.Pass ⟨0, 0, 0, 0⟩)
def allB : List Str := ["isinstance", "str", "len", "all", "int", "bool", "tuple", "abs", "range", "list", "zip"]
theorem bsub {mg : Str → Option Value} {l l' : List Str} (h : ∀ x ∈ l', mg x = none) (s : l.all (fun x => l'.contains x) = true) : ∀ x ∈ l, mg x = none := fun x hx =>
  h x (by simpa using List.all_eq_true.mp s x hx)
def sp__law_bag : SpD := fun ds M Q _ => ∃ ns, ds = [.scr ns] ∧ ns.length ≤ 63 ∧ ∀ p M', M p = none → BagAt M' p → Keep p M M' → Q (.ptr p) M'
def sp__law_draw : SpD := fun ds M Q _ => ∃ p m, BagAt M p ∧ ds = [.ptr p, .int m] ∧ 0 < m ∧ m < 1073741824 ∧ dDraw p m M Q
def sp__law_pick : SpD := fun ds M Q _ => ∃ p x, BagAt M p ∧ ds = [.ptr p, x] ∧
  ((∃ xs, (x = .lst xs ∨ x = .tup xs) ∧ 0 < xs.length ∧ xs.length < 1073741824 ∧ ∀ d ∈ xs, ∀ M', BagAt M' p → Keep p M M' → Q d M') ∨
   (∃ s : Str, x = .str s ∧ 0 < s.length ∧ s.length ≤ 16777216 ∧ ∀ c ∈ s.cps.toList, ∀ M', BagAt M' p → Keep p M M' → Q (.str ⟨#[c]⟩) M'))
abbrev letters : Str := abc
def sp__law_letters : SpD := fun ds M Q _ => ds = [] ∧ Q (.str letters) M
def sp__law_same (n : Nat) : SpD := fun ds M Q _ => ∃ x, ds = [x, x] ∧ D.sm n x = true ∧ Q (.bl true) M
def sp__law_names : SpD := fun ds M Q _ => ∃ p n, BagAt M p ∧ ds = [.ptr p, .int n] ∧ 0 ≤ n ∧ n ≤ 26 ∧ ∀ names M', NamesOk n.toNat names → BagAt M' p → Keep p M M' → Q (.lst (names.map .str)) M'
def strO (s : Str) : Prop := PyData.strOk s = true
def isSA (w : Str) : Bool := D.mem (.str w) [.str "same", .str "apart"]
def isSI (w : Str) : Bool := D.mem (.str w) [.str "same", .str "is"]
def sp_pictures_of : SpD := fun ds M Q _ => ∃ w xs, D.ok 60 (.str w) = true ∧ ds = [.tup (.str w :: xs)] ∧ Q (.tup (if isSA w = true then xs else xs.take 1)) M
def sp_is_tie : SpD := fun ds M Q _ => ∃ w xs, D.ok 60 (.str w) = true ∧ ds = [.tup (.str w :: xs)] ∧ Q (.bl (isSI w)) M
section
variable {M M0 : Mm} {Q : D → Mm → Prop} {E : Str → List (Str × D) → Mm → Prop} {p : Addr} {m : Int} {xs : List D} {s : Str}
theorem lf_draw (hb : BagAt M p) (kp : Keep p M0 M) (h0 : 0 < m) (h1 : m < 1073741824) (q : ∀ (i : Int) (M' : Mm), 0 ≤ i → i < m → BagAt M' p → Keep p M0 M' → Q (.int i) M') : sp__law_draw [.ptr p, .int m] M Q E :=
  ⟨p, m, hb, rfl, h0, h1, fun i M' a b c d => q i M' a b c (kp.trans d)⟩
theorem lf_letters (q : Q (.str letters) M) : sp__law_letters [] M Q E := ⟨rfl, q⟩
theorem lf_pickS (hb : BagAt M p) (kp : Keep p M0 M) (h0 : 0 < s.length) (h1 : s.length ≤ 16777216) (q : ∀ (c : Nat) (M' : Mm), c ∈ s.cps.toList → BagAt M' p → Keep p M0 M' → Q (.str ⟨#[c]⟩) M') : sp__law_pick [.ptr p, .str s] M Q E :=
  ⟨p, _, hb, rfl, .inr ⟨s, rfl, h0, h1, fun c hc M' a b => q c M' hc a (kp.trans b)⟩⟩
theorem lf_pickL (hb : BagAt M p) (kp : Keep p M0 M) (h0 : 0 < xs.length) (h1 : xs.length < 1073741824) (q : ∀ (d : D) (M' : Mm), d ∈ xs → BagAt M' p → Keep p M0 M' → Q d M') : sp__law_pick [.ptr p, .lst xs] M Q E :=
  ⟨p, _, hb, rfl, .inl ⟨xs, .inl rfl, h0, h1, fun c hc M' a b => q c M' hc a (kp.trans b)⟩⟩
theorem lf_pickStr (hb : BagAt M p) (kp : Keep p M0 M) (h0 : 0 < xs.length) (h1 : xs.length < 1073741824) (al : AllS xs) (q : ∀ (l : List Nat) (M' : Mm), .str (tx l) ∈ xs → PyData.strOk (tx l) = true → l.length ≤ 40 → BagAt M' p → Keep p M0 M' → Q (.str (tx l)) M') : sp__law_pick [.ptr p, .lst xs] M Q E :=
  lf_pickL hb kp h0 h1 fun d M' hd a b => by
    obtain ⟨l, rfl, h2, h3⟩ := al.get hd
    exact q l M' hd h2 h3 a b
theorem lf_pickInt (hb : BagAt M p) (kp : Keep p M0 M) (h0 : 0 < xs.length) (h1 : xs.length < 1073741824) (al : AllI xs) (q : ∀ (i : Int) (M' : Mm), .int i ∈ xs → BagAt M' p → Keep p M0 M' → Q (.int i) M') : sp__law_pick [.ptr p, .lst xs] M Q E :=
  lf_pickL hb kp h0 h1 fun d M' hd a b => by
    obtain ⟨l, rfl⟩ := al.get hd
    exact q l M' hd a b
theorem lf_pickSm (hb : BagAt M p) (kp : Keep p M0 M) (h0 : 0 < xs.length) (h1 : xs.length < 1073741824) (al : D.sms 7 xs = true) (q : ∀ (d : D) (M' : Mm), d ∈ xs → D.sm 7 d = true → BagAt M' p → Keep p M0 M' → Q d M') : sp__law_pick [.ptr p, .lst xs] M Q E :=
  lf_pickL hb kp h0 h1 fun d M' hd a b => q d M' hd (D.sms_mem al hd) a b
theorem lf_pickT (hb : BagAt M p) (kp : Keep p M0 M) (h0 : 0 < xs.length) (h1 : xs.length < 1073741824) (q : ∀ (d : D) (M' : Mm), d ∈ xs → BagAt M' p → Keep p M0 M' → Q d M') : sp__law_pick [.ptr p, .tup xs] M Q E :=
  ⟨p, _, hb, rfl, .inl ⟨xs, .inr rfl, h0, h1, fun c hc M' a b => q c M' hc a (kp.trans b)⟩⟩
end
abbrev sp_law : SpD := spLaw
theorem lf_bag {M : Mm} {Q : D → Mm → Prop} {E : Str → List (Str × D) → Mm → Prop} {ns : List Int} (hn : ns.length ≤ 63) (q : ∀ p M', BagAt M' p → Keep p M' M' → Q (.ptr p) M') : sp__law_bag [.scr ns] M Q E :=
  ⟨ns, rfl, hn, fun p M' _ hb _ => q p M' hb (Keep.refl _ _)⟩
theorem lf_names {M M0 : Mm} {Q : D → Mm → Prop} {E : Str → List (Str × D) → Mm → Prop} {p : Addr} {n : Int} (hb : BagAt M p) (kp : Keep p M0 M) (h0 : 0 ≤ n) (h1 : n ≤ 26) (q : ∀ (names : List (List Nat)) M', NamesL n.toNat names → BagAt M' p → Keep p M0 M' → Q (.lst (names.map fun l => .str (tx l))) M') : sp__law_names [.ptr p, .int n] M Q E :=
  ⟨p, n, hb, rfl, h0, h1, fun names M' a b c => by
    have z := q _ M' (namesL_of a) b (kp.trans c)
    rw [List.map_map] at z
    exact z⟩
theorem lf_names1 {M M0 : Mm} {Q : D → Mm → Prop} {E : Str → List (Str × D) → Mm → Prop} {p : Addr} (hb : BagAt M p) (kp : Keep p M0 M) (q : ∀ nm M', NameL nm → nm.length ≤ 8 → BagAt M' p → Keep p M0 M' → Q (.lst [.str (tx nm)]) M') : sp__law_names [.ptr p, .int 1] M Q E :=
  ⟨p, 1, hb, rfl, by omega, by omega, fun names M' a b c => by
    obtain ⟨a1, a2, a3⟩ := a
    match names, a1 with
    | [nm], _ => exact q nm.cps.toList M' (a2 nm List.mem_cons_self).l (a2 nm List.mem_cons_self).l.small b (kp.trans c)⟩
section
variable {M : Mm} {Q : D → Mm → Prop} {E : Str → List (Str × D) → Mm → Prop} {w : Str} {xs : List D} {x y : D}
theorem lf_picsT (c : isSA w = true) (o : D.ok 60 (.str w) = true) (h : Q (.tup xs) M) : sp_pictures_of [.tup (.str w :: xs)] M Q E := ⟨w, xs, o, rfl, by rw [if_pos c]; exact h⟩
theorem lf_picsF (c : isSA w = false) (o : D.ok 60 (.str w) = true) (h : Q (.tup (xs.take 1)) M) : sp_pictures_of [.tup (.str w :: xs)] M Q E := ⟨w, xs, o, rfl, by rw [if_neg (by rw [c]; exact Bool.false_ne_true)]; exact h⟩
theorem lf_tieT (c : isSI w = true) (o : D.ok 60 (.str w) = true) (h : Q (.bl true) M) : sp_is_tie [.tup (.str w :: xs)] M Q E := ⟨w, xs, o, rfl, by rw [c]; exact h⟩
theorem lf_tieF (c : isSI w = false) (o : D.ok 60 (.str w) = true) (h : Q (.bl false) M) : sp_is_tie [.tup (.str w :: xs)] M Q E := ⟨w, xs, o, rfl, by rw [c]; exact h⟩
theorem lf_same (e : x = y) (h : D.sm 8 y = true) (q : Q (.bl true) M) : sp__law_same 8 [x, y] M Q E := ⟨y, by rw [e], h, q⟩
theorem lf_same' (e : x = y) (h : D.sm 8 x = true) (q : Q (.bl true) M) : sp__law_same 8 [x, y] M Q E := ⟨x, by rw [e], h, q⟩
end
def sp_is_number : SpD := fun ds M Q _ => ∃ v lo hi, D.sm 8 v = true ∧ ds = [v, .int lo, .int hi] ∧ Q (.bl (isNum v lo hi)) M
def sp_is_name : SpD := fun ds M Q _ => ∃ v, D.sm 8 v = true ∧ ds = [v] ∧ Q (.bl (isName v)) M
def sp_is_picture : SpD := fun ds M Q _ => ∃ v, D.sm 8 v = true ∧ ds = [v] ∧ Q (.bl (isNum v 0 23)) M
def sp_is_saying : SpD := fun ds M Q _ => ∃ v, D.sm 8 v = true ∧ ds = [v] ∧ Q (.bl (isSay v)) M
--lf: lf_picsT DK DK
--lf: lf_picsF DK DK
--lf: lf_tieT DK DK
--lf: lf_tieF DK DK
--lf: lf_same RA SM
--lf: lf_same' RA SM
--lf: lf_letters
--lf: lf_bag AS I4
--lf: lf_names1 AS AS I6
--lf: lf_names AS AS CD CD I5
--lf: lf_draw AS AS CD CD I6
--lf: lf_pickS AS AS DK DK I5
--lf: lf_pickStr AS AS LE LE ALLS I7
--lf: lf_pickInt AS AS LE LE ALLI I5
--lf: lf_pickSm AS AS LE LE SMS I6
--lf: lf_pickL AS AS LE LE I5
--lf: lf_pickT AS AS LE LE I5
section
variable {M : Mm} {Q : D → Mm → Prop} {E : Str → List (Str × D) → Mm → Prop} {v x y : D} {lo hi : Int}
theorem lf_isnum (h : D.sm 8 v = true) (q : Q (.bl (isNum v lo hi)) M) : sp_is_number [v, .int lo, .int hi] M Q E := ⟨v, lo, hi, h, rfl, q⟩
theorem lf_isname (h : D.sm 8 v = true) (q : Q (.bl (isName v)) M) : sp_is_name [v] M Q E := ⟨v, h, rfl, q⟩
theorem lf_ispic (h : D.sm 8 v = true) (q : Q (.bl (isNum v 0 23)) M) : sp_is_picture [v] M Q E := ⟨v, h, rfl, q⟩
theorem lf_issay (h : D.sm 8 v = true) (q : Q (.bl (isSay v)) M) : sp_is_saying [v] M Q E := ⟨v, h, rfl, q⟩
end
--lf: lf_isnum SM
--lf: lf_isnameT AS
--lf: lf_isname SM
--lf: lf_ispic SM
--lf: lf_issay SM
abbrev sp__law_is_number : SpD := sp_is_number
abbrev sp__law_is_name : SpD := sp_is_name
abbrev sp__law_is_saying : SpD := sp_is_saying
def sp__law_some : SpD := fun ds M Q _ => ∃ p, BagAt M p ∧ ds = [.ptr p] ∧ ∀ d M', D.sm 8 d = true → BagAt M' p → Keep p M M' → Q d M'
theorem lf_some {M M0 : Mm} {Q : D → Mm → Prop} {E : Str → List (Str × D) → Mm → Prop} {p : Addr} (hb : BagAt M p) (kp : Keep p M0 M) (q : ∀ d M', D.sm 8 d = true → BagAt M' p → Keep p M0 M' → Q d M') : sp__law_some [.ptr p] M Q E :=
  ⟨p, hb, rfl, fun d M' a b c => q d M' a b (kp.trans c)⟩
--lf: lf_some AS AS I5
theorem lf_isnameT {M : Mm} {Q : D → Mm → Prop} {E : Str → List (Str × D) → Mm → Prop} {l : List Nat} (h : NameL l) (q : Q (.bl true) M) : sp_is_name [.str (tx l)] M Q E := ⟨_, sm_str (nameL_ok h) (by have := h.small; simp only [tx_l]; omega), rfl, by rw [isName_of h]; exact q⟩
local macro_rules | `(tactic| tbr_iter "has") => `(tactic| first | with_reducible exact Has.here | (with_reducible apply Has.there; tbr_iter "has"))
local macro_rules | `(tactic| tbr_iter "put") => `(tactic| first | with_reducible exact Put.here | (with_reducible apply Put.there; tbr_iter "put"))
local macro_rules | `(tactic| tbr_iter "mem") => `(tactic| first | with_reducible exact List.mem_cons_self | (with_reducible apply List.mem_cons_of_mem; tbr_iter "mem"))
local macro_rules | `(tactic| tbr_iter "ge") => do let g := Lean.mkIdent `gz; let q := Lean.mkIdent `Qz; `(tactic| (refine de_gen ?_; intro $q $g))
local macro_rules | `(tactic| tbr_iter "gt") => do let g := Lean.mkIdent `gt; let q := Lean.mkIdent `Qt; `(tactic| (refine dt_gen ?_; intro $q $g))
local macro_rules | `(tactic| tbr_iter "fe") => do let g := Lean.mkIdent `gz; let q := Lean.mkIdent `Qz; `(tactic| (with_reducible refine fnE $g ?_; try clear $g; try clear $q))
local macro_rules | `(tactic| tbr_iter "ft") => do let g := Lean.mkIdent `gt; let q := Lean.mkIdent `Qt; `(tactic| (with_reducible refine fnT $g ?_; try clear $g; try clear $q))
local macro_rules | `(tactic| tbr_iter "sm") => `(tactic| first | assumption | (apply sm7; assumption) | with_reducible exact sm_int | with_reducible exact sm_bl | with_reducible exact sm_non | ((with_reducible apply sm_lst); tbr_iter "ln0"; tbr_iter "sms") | ((with_reducible apply sm_tup); tbr_iter "ln0"; tbr_iter "sms") | ((with_reducible apply sm_str); tbr_iter "stok"; (first | tbr_iter "ln0" | (simp only [tx_l]; tbr_iter "ln") | decide +kernel)))
local macro_rules | `(tactic| tbr_iter "sms") => `(tactic| first | assumption | with_reducible exact sms_nil | ((with_reducible apply sms_cons); tbr_iter "sm"; tbr_iter "sms"))
local macro_rules | `(tactic| tbr_iter "ln0") => `(tactic| first | with_unfolding_all exact Nat.le_of_ble_eq_true rfl | tbr_iter "ln")
local macro_rules | `(tactic| tbr_iter "kwr") => `(tactic| simp only [List.map_cons, List.map_nil, List.getD_cons_zero, List.getD_cons_succ, List.cons_append, List.nil_append, List.append_nil])
local macro_rules | `(tactic| tbr_iter "dec") => `(tactic| first | assumption | omega | (simp only [List.length_cons, List.length_nil, List.length_map]; omega))
local macro_rules | `(tactic| tbr_iter "alls") => `(tactic| first | with_reducible exact AllS.nil | ((with_reducible apply AllS.cons); decide +kernel; tbr_iter "alls"))
local macro_rules | `(tactic| tbr_iter "alli") => `(tactic| first | with_reducible exact AllI.nil | ((with_reducible apply AllI.cons); tbr_iter "alli"))
local macro_rules | `(tactic| tbr_iter "stok") => `(tactic| first | assumption | (apply nameL_ok; assumption) | ((with_reducible apply stok_app); tbr_iter "stok"; tbr_iter "stok") | ((with_reducible apply stok_take); tbr_iter "stok") | ((with_reducible apply stok_drop); tbr_iter "stok") | decide +kernel)
local macro_rules | `(tactic| tbr_iter "nd") => `(tactic| with_unfolding_all exact of_decide_eq_true rfl)
local macro_rules | `(tactic| tbr_iter "mems") => `(tactic| first | assumption | exact (fun _ h => nomatch h) | decide +kernel | simp)
local macro_rules | `(tactic| tbr_iter "pk") => `(tactic| first | with_reducible exact Pk.nil | (with_reducible apply Pk.cons; tbr_iter "mem"; tbr_iter "pk"))
local macro_rules | `(tactic| tbr_iter "ix") => `(tactic| with_reducible first | exact ix0 | exact ix1 | exact ix2 | exact ix3 | exact ix4 | exact ix5)
local macro_rules | `(tactic| tbr_iter "sz") => `(tactic| with_unfolding_all first | (show _ ≤ sizeLine; rw [sizeLine_eq]; first | decide | omega | (simp; done) | (simp; omega)))
local macro_rules | `(tactic| tbr_iter "ln") => `(tactic| first | omega | (have := NameL.small (by assumption); omega) | (simp only [List.length_append, List.length_take, List.length_drop, List.length_cons, List.length_nil]; omega) | (simp only [List.length_append, List.length_take, List.length_drop, List.length_cons, List.length_nil]; split <;> (try simp only [List.length_nil, List.length_cons]) <;> omega) | (simp; omega))
local macro_rules | `(tactic| tbr_iter "ok") => `(tactic| first | assumption | with_reducible exact ok_int | with_reducible exact ok_bl | with_reducible exact ok_non | ((with_reducible apply ok_lst); tbr_iter "oks") | ((with_reducible apply ok_tup); tbr_iter "oks") | (apply sm_okk; assumption; decide) | ((with_reducible apply ok_str); tbr_iter "stok") | with_unfolding_all (simp [D.ok, D.oks, *]; done))
local macro_rules | `(tactic| tbr_iter "oks") => `(tactic| first | assumption | with_reducible exact oks_nil | ((with_reducible apply oks_cons); tbr_iter "ok"; tbr_iter "oks") | (apply sms_okk; assumption; decide))
local macro_rules | `(tactic| tbr_iter "eqn") => `(tactic| first | (simp only [mem_cons, mem_nil, eq_ii, eq_ss, eq_bb, eq_nn, eq_ll, eq_tt, eqs_cons, eqs_nil, eqs_c0, eqs_0c, Bool.and_false, Bool.false_and, Bool.or_false, Bool.false_or, Bool.and_true, Bool.true_and, ← Bool.decide_or, ← Bool.decide_and, eq_non_bl, eq_non_int, eq_non_str, eq_non_tup, eq_non_lst, eq_bl_non, eq_bl_str, eq_bl_tup, eq_bl_lst, eq_int_non, eq_int_str, eq_int_tup, eq_int_lst, eq_str_non, eq_str_bl, eq_str_int, eq_str_tup, eq_str_lst, eq_tup_non, eq_tup_bl, eq_tup_int, eq_tup_str, eq_tup_lst, eq_lst_non, eq_lst_bl, eq_lst_int, eq_lst_str, eq_lst_tup]; exact rfl) | exact rfl)
local macro_rules | `(tactic| tbr_iter "r") => `(tactic| with_unfolding_all rfl)
local macro_rules | `(tactic| tbr_iter "s") => `(tactic| with_reducible assumption)
local macro_rules | `(tactic| tbr_iter "cd") => `(tactic| first | assumption | decide +kernel | omega | (have := NameL.small (by assumption); omega))
local macro_rules | `(tactic| tbr_iter "mb") => `(tactic| (unfold mB; omega))
local macro_rules | `(tactic| tbr_iter "px") => `(tactic| with_reducible first | exact px_const | exact px_name | exact px_bin | exact px_call | exact px_sub | exact px_una | exact px_attr | exact px_tup)
local macro_rules | `(tactic| tbr_iter "tv") => `(tactic| with_unfolding_all exact (fun _ => rfl))
local macro_rules | `(tactic| tbr_iter "lk") => `(tactic| first
  | with_unfolding_all assumption
  | exact Mm.put_same
  | (rw [Mm.put_ne (by tbr_iter "ne")]; tbr_iter "lk"))
local macro_rules | `(tactic| tbr_iter "ty") => `(tactic| first
  | with_unfolding_all exact rfl
  | assumption)
local macro_rules | `(tactic| tbr_iter "kit") => `(tactic| first
  | with_reducible exact kit_NoneType_list
  | with_reducible exact kit_NoneType_tuple
  | with_reducible exact kit_NoneType_bool
  | with_reducible exact kit_NoneType_int
  | with_reducible exact kit_NoneType_str
  | with_reducible exact kit_NoneType_dict
  | with_reducible exact kit_bool_list
  | with_reducible exact kit_bool_tuple
  | with_reducible exact kit_bool_bool
  | with_reducible exact kit_bool_int
  | with_reducible exact kit_bool_str
  | with_reducible exact kit_bool_dict
  | with_reducible exact kit_int_list
  | with_reducible exact kit_int_tuple
  | with_reducible exact kit_int_bool
  | with_reducible exact kit_int_int
  | with_reducible exact kit_int_str
  | with_reducible exact kit_int_dict
  | with_reducible exact kit_str_list
  | with_reducible exact kit_str_tuple
  | with_reducible exact kit_str_bool
  | with_reducible exact kit_str_int
  | with_reducible exact kit_str_str
  | with_reducible exact kit_str_dict
  | with_reducible exact kit_tuple_list
  | with_reducible exact kit_tuple_tuple
  | with_reducible exact kit_tuple_bool
  | with_reducible exact kit_tuple_int
  | with_reducible exact kit_tuple_str
  | with_reducible exact kit_tuple_dict
  | with_reducible exact kit_list_list
  | with_reducible exact kit_list_tuple
  | with_reducible exact kit_list_bool
  | with_reducible exact kit_list_int
  | with_reducible exact kit_list_str
  | with_reducible exact kit_list_dict
  | with_reducible exact kit_dict_list
  | with_reducible exact kit_dict_tuple
  | with_reducible exact kit_dict_bool
  | with_reducible exact kit_dict_int
  | with_reducible exact kit_dict_str
  | with_reducible exact kit_dict_dict)
local macro_rules | `(tactic| tbr_iter "ne") => `(tactic| first
  | assumption
  | exact Ne.symm (by assumption))
local macro_rules | `(tactic| tbr_iter "da") => `(tactic| first
  | (with_reducible apply da_nil)
  | ((with_reducible apply da_cons); (tbr_iter "r"))
  | ((with_reducible apply da_star); (tbr_iter "r"))
  | (with_reducible apply dk_nil)
  | (with_reducible apply dk_cons)
  | (with_reducible apply do_none)
  | (with_reducible apply do_some))
local macro_rules | `(tactic| tbr_iter "ds") => `(tactic| first
  | ((with_reducible apply ds_ret); (tbr_iter "ge"))
  | ((with_reducible apply ds_if); (tbr_iter "gt"))
  | (with_reducible apply ds_retN)
  | ((with_reducible apply ds_expr); (tbr_iter "r"); (tbr_iter "ge"))
  | (with_reducible apply ds_nil)
  | (with_reducible apply ds_pass)
  | ((with_reducible apply ds_setE); (tbr_iter "s"); (tbr_iter "mem"); (tbr_iter "mem"); (tbr_iter "r"); (intro _ _))
  | ((with_reducible apply ds_set); (tbr_iter "s"); (tbr_iter "mem"); (tbr_iter "mem"); (tbr_iter "r"); (tbr_iter "ge"))
  | ((with_reducible apply ds_asgSub); (tbr_iter "r"); (tbr_iter "r"); (tbr_iter "r"); (with_unfolding_all exact (fun _ => rfl)); (tbr_iter "ge"))
  | ((with_reducible apply ds_par2); (tbr_iter "s"); (tbr_iter "mem"); (tbr_iter "mem"); (with_unfolding_all decide); (tbr_iter "mem"); (tbr_iter "mem"); (tbr_iter "r"); (decide +kernel); (tbr_iter "r"); (tbr_iter "r"); (tbr_iter "r"); (tbr_iter "r"))
  | ((with_reducible apply ds_par3'); (tbr_iter "s"); (tbr_iter "mem"); (tbr_iter "mem"); (tbr_iter "mem"); (with_unfolding_all decide); (with_unfolding_all decide); (with_unfolding_all decide); (tbr_iter "mem"); (tbr_iter "mem"); (tbr_iter "mem"); (tbr_iter "r"); (tbr_iter "r"); (decide +kernel); (tbr_iter "r"); (tbr_iter "r"); (tbr_iter "r"); (tbr_iter "r"))
  | ((with_reducible apply ds_asg); (tbr_iter "r"); (tbr_iter "r"); (tbr_iter "r"))
  | (with_reducible apply ds_break)
  | (with_reducible apply ds_cont))
local macro_rules | `(tactic| tbr_iter "fin") => `(tactic| first
  | (with_reducible apply po_nx)
  | (with_reducible apply po_rt)
  | (with_reducible apply po_bk)
  | (with_reducible apply po_ct)
  | tbr_iter "fe"
  | tbr_iter "ft"
  | ((with_reducible apply fnN); (tbr_iter "s"))
  | ((with_reducible apply fnR); (tbr_iter "s"))
  | ((with_reducible apply fnB); (tbr_iter "s"))
  | ((with_reducible apply fnC); (tbr_iter "s"))
  | ((with_reducible apply pol_rt); (dsimp only))
  | ((with_reducible apply pol_nx); (dsimp only))
  | ((with_reducible apply pol_bk); (dsimp only))
  | ((with_reducible apply pol_ct); (dsimp only)))
local macro_rules | `(tactic| tbr_iter "dtC") => `(tactic| first
  | ((with_reducible apply dt_chain od_le od_le); tbr_iter "r")
  | ((with_reducible apply dt_chain od_le od_lt); tbr_iter "r")
  | ((with_reducible apply dt_chain od_lt od_le); tbr_iter "r")
  | ((with_reducible apply dt_chain od_lt od_lt); tbr_iter "r")
  | ((with_reducible apply dt_eq); (tbr_iter "s"))
  | ((with_reducible apply dt_ne); (tbr_iter "s"))
  | ((with_reducible apply dt_in); (tbr_iter "s"); (tbr_iter "r"))
  | ((with_reducible apply dt_notin); (tbr_iter "s"); (tbr_iter "r"))
  | (with_reducible apply dt_cmp od_lt nobeh)
  | (with_reducible apply dt_cmp od_le nobeh)
  | (with_reducible apply dt_cmp od_gt nobeh)
  | (with_reducible apply dt_cmp od_ge nobeh)
  | (with_reducible apply dt_cmp od_is nobeh)
  | (with_reducible apply dt_cmp od_isnot nobeh))
local macro_rules | `(tactic| tbr_iter "dt") => `(tactic| first
  | (with_reducible apply hT_cmp; tbr_iter "dtC")
  | (with_reducible apply dt_not)
  | (with_reducible apply dt_dw; with_reducible apply dw_and)
  | (with_reducible apply dt_dw; with_reducible apply dw_or)
  | (with_reducible apply dw_and)
  | (with_reducible apply dw_or)
  | (with_reducible apply dw_and1)
  | (with_reducible apply dw_or1)
  | ((with_reducible apply dt_val); (tbr_iter "tv")))
local macro_rules | `(tactic| tbr_iter "deC") => `(tactic| first
  | ((with_reducible apply de_chain od_le od_le); tbr_iter "r")
  | ((with_reducible apply de_chain od_le od_lt); tbr_iter "r")
  | ((with_reducible apply de_chain od_lt od_le); tbr_iter "r")
  | ((with_reducible apply de_chain od_lt od_lt); tbr_iter "r")
  | ((with_reducible apply de_eq); (tbr_iter "s"))
  | ((with_reducible apply de_ne); (tbr_iter "s"))
  | ((with_reducible apply de_in); (tbr_iter "s"); (tbr_iter "r"))
  | ((with_reducible apply de_notin); (tbr_iter "s"); (tbr_iter "r"))
  | (with_reducible apply de_cmp od_lt nobeh)
  | (with_reducible apply de_cmp od_le nobeh)
  | (with_reducible apply de_cmp od_gt nobeh)
  | (with_reducible apply de_cmp od_ge nobeh)
  | (with_reducible apply de_cmp od_is nobeh)
  | (with_reducible apply de_cmp od_isnot nobeh))
local macro_rules | `(tactic| tbr_iter "deB") => `(tactic| first
  | (with_reducible apply de_bin od_add)
  | (with_reducible apply de_bin od_sub)
  | (with_reducible apply de_bin od_mul)
  | (with_reducible apply de_bin od_mod)
  | (with_reducible apply de_bin od_fdiv)
  | (with_reducible apply de_bin od_pow))
local macro_rules | `(tactic| tbr_iter "deK") => `(tactic| first
  | ((with_reducible apply de_len); (tbr_iter "s"); (tbr_iter "r"); (tbr_iter "mem"); (tbr_iter "mem"))
  | ((with_reducible apply de_all); (tbr_iter "s"); (tbr_iter "r"); (tbr_iter "mem"); (tbr_iter "mem"))
  | ((with_reducible apply de_any); (tbr_iter "s"); (tbr_iter "r"); (tbr_iter "mem"); (tbr_iter "mem"))
  | ((with_reducible apply de_abs); (tbr_iter "s"); (tbr_iter "r"); (tbr_iter "mem"); (tbr_iter "mem"))
  | ((with_reducible apply de_intC); (tbr_iter "s"); (tbr_iter "r"); (tbr_iter "mem"); (tbr_iter "mem"))
  | ((with_reducible apply de_listC); (tbr_iter "s"); (tbr_iter "r"); (tbr_iter "mem"); (tbr_iter "mem"))
  | ((with_reducible apply de_tupC); (tbr_iter "s"); (tbr_iter "r"); (tbr_iter "mem"); (tbr_iter "mem"))
  | ((with_reducible apply de_isi); (tbr_iter "s"); (tbr_iter "r"); (tbr_iter "r"); (tbr_iter "mem"); (tbr_iter "mem"))
  | ((with_reducible apply de_append'); (tbr_iter "r"); (tbr_iter "r"); (tbr_iter "r"))
  | ((with_reducible apply de_join'); (tbr_iter "r"); (tbr_iter "r"); (tbr_iter "r"))
  | ((with_reducible apply de_call); (tbr_iter "s"); (tbr_iter "s"); (decide); (tbr_iter "mem"); (tbr_iter "r"); (tbr_iter "r"))
  | ((with_reducible apply de_callK0); tbr_iter "s"; tbr_iter "s"; with_unfolding_all decide; tbr_iter "mem"; exact List.mem_cons_self; tbr_iter "r"; with_unfolding_all decide; tbr_iter "r"; tbr_iter "r"; tbr_iter "r")
  | ((with_reducible apply de_callK0); tbr_iter "s"; tbr_iter "s"; with_unfolding_all decide; tbr_iter "mem"; exact List.mem_cons_of_mem _ List.mem_cons_self; tbr_iter "r"; with_unfolding_all decide; tbr_iter "r"; tbr_iter "r"; tbr_iter "r")
  | ((with_reducible apply de_callK0); tbr_iter "s"; tbr_iter "s"; with_unfolding_all decide; tbr_iter "mem"; exact List.mem_cons_of_mem _ (List.mem_cons_of_mem _ List.mem_cons_self); tbr_iter "r"; with_unfolding_all decide; tbr_iter "r"; tbr_iter "r"; tbr_iter "r")
  | ((with_reducible apply de_callK); tbr_iter "s"; tbr_iter "s"; with_unfolding_all decide; tbr_iter "mem"; exact List.mem_cons_self; with_unfolding_all decide; tbr_iter "r"; tbr_iter "r"; tbr_iter "r"; tbr_iter "r")
  | ((with_reducible apply de_callK); tbr_iter "s"; tbr_iter "s"; with_unfolding_all decide; tbr_iter "mem"; exact List.mem_cons_of_mem _ List.mem_cons_self; with_unfolding_all decide; tbr_iter "r"; tbr_iter "r"; tbr_iter "r"; tbr_iter "r")
  | ((with_reducible apply de_callK); tbr_iter "s"; tbr_iter "s"; with_unfolding_all decide; tbr_iter "mem"; exact List.mem_cons_of_mem _ (List.mem_cons_of_mem _ List.mem_cons_self); with_unfolding_all decide; tbr_iter "r"; tbr_iter "r"; tbr_iter "r"; tbr_iter "r")
  | ((with_reducible apply de_call0); (tbr_iter "s"); (tbr_iter "s"); (decide); (tbr_iter "mem")))
local macro_rules | `(tactic| tbr_iter "deN") => `(tactic| first
  | ((with_reducible apply de_name); (tbr_iter "has"))
  | ((with_reducible apply de_glob); (tbr_iter "s"); (tbr_iter "mem"); (tbr_iter "s"))
  | ((with_reducible apply de_ty); (tbr_iter "s"); (tbr_iter "mem"); (exact Sc.bt (by tbr_iter "s") _ (by tbr_iter "mem")); (with_reducible first | exact boot_list' | exact boot_tuple' | exact boot_int' | exact boot_str' | exact boot_bool' | exact boot_dict')))
local macro_rules | `(tactic| tbr_iter "de") => `(tactic| first
  | (with_reducible apply hE_name; tbr_iter "deN")
  | (with_reducible apply hE_cmp; tbr_iter "deC")
  | (with_reducible apply hE_bin; tbr_iter "deB")
  | (with_reducible apply hE_call; tbr_iter "deK")
  | (with_reducible apply de_int)
  | (with_reducible apply de_str)
  | (with_reducible apply de_bl)
  | (with_reducible apply de_non)
  | (with_reducible apply de_tup)
  | (with_reducible apply de_lst)
  | (with_reducible apply de_una ud_neg)
  | (with_reducible apply de_notB)
  | (with_reducible apply de_one)
  | (with_reducible apply de_and)
  | (with_reducible apply de_or)
  | (with_reducible apply de_ife)
  | (with_reducible apply de_slice)
  | (with_reducible apply de_ix xd_ix; tbr_iter "px"))
local macro_rules | `(tactic| tbr_iter "lf") => `(tactic| first
  | (with_reducible apply lf_nT)
  | (with_reducible apply lf_nF)
  | ((with_reducible apply lf_kwl); (tbr_iter "r"); (tbr_iter "kwr"))
  | ((with_reducible apply lf_app1); (tbr_iter "lk"))
  | ((with_reducible apply lf_frz); (tbr_iter "lk"))
  | ((with_reducible apply lf_app2); (tbr_iter "lk"); (rw [sizeLine_eq]); (tbr_iter "ln"))
  | ((with_reducible apply lf_lsz); (first | with_unfolding_all exact Nat.le_of_ble_eq_true rfl | tbr_iter "ln"))
  | (with_reducible apply lf_exS)
  | (with_reducible apply lf_exP)
  | ((with_reducible apply lf_par2); (tbr_iter "put"); (tbr_iter "put"))
  | ((with_reducible apply lf_par3); (tbr_iter "put"); (tbr_iter "put"); (tbr_iter "put"))
  | (with_reducible apply lf_seqL)
  | (with_reducible apply lf_itL)
  | (with_reducible apply lf_itT)
  | (with_reducible apply lf_itS)
  | (with_reducible apply lf_seqT)
  | ((with_reducible apply lf_rng1); (tbr_iter "cd"); (tbr_iter "cd"))
  | ((with_reducible apply lf_rng2); (tbr_iter "cd"); (tbr_iter "cd"); (tbr_iter "cd"); (tbr_iter "cd"))
  | (with_reducible apply lf_blT)
  | (with_reducible apply lf_blF)
  | (with_reducible apply lf_nbT)
  | (with_reducible apply lf_nbF)
  | (with_reducible apply lf_allm)
  | (with_reducible apply lf_anym)
  | (with_reducible apply lf_inS)
  | (with_reducible apply lf_ninS)
  | ((with_reducible apply lf_dcT); (tbr_iter "dec"))
  | ((with_reducible apply lf_dcF); (tbr_iter "dec"))
  | ((with_reducible apply lf_ndcT); (tbr_iter "dec"))
  | ((with_reducible apply lf_ndcF); (tbr_iter "dec"))
  | ((with_reducible apply lf_pdT); (tbr_iter "dec"))
  | ((with_reducible apply lf_pdF); (tbr_iter "dec"))
  | ((with_reducible apply lf_ndT); (tbr_iter "dec"))
  | ((with_reducible apply lf_ndF); (tbr_iter "dec"))
  | (with_reducible refine lf_dc2 (fun hT => ?_) (fun hF => ?_))
  | (with_reducible refine lf_ndc2 (fun hF => ?_) (fun hT => ?_))
  | (with_reducible refine lf_pd2 (fun hT => ?_) (fun hF => ?_))
  | (with_reducible refine lf_nd2 (fun hF => ?_) (fun hT => ?_))
  | (with_reducible refine lf_bl2 ⟨fun hT => ?_, fun hF => ?_⟩)
  | (with_reducible refine lf_nb2 (fun hF => ?_) (fun hT => ?_))
  | (with_reducible apply lf_bl)
  | (with_reducible apply lf_F)
  | (with_reducible apply lf_T)
  | (with_reducible refine And.intro (fun hT => ?_) (fun hF => ?_))
  | (with_reducible apply lf_sqL)
  | (with_reducible apply lf_sqT)
  | ((with_reducible apply lf_put); (tbr_iter "put"))
  | (with_reducible apply lf_oi)
  | (with_reducible apply lf_addI)
  | ((with_reducible apply lf_addT); (rw [sizeLine_eq]); (tbr_iter "ln"))
  | ((with_reducible apply lf_addL); (rw [sizeLine_eq]); (tbr_iter "ln"))
  | ((with_reducible apply lf_addX); (tbr_iter "ln"))
  | ((with_reducible apply lf_addS); (tbr_iter "sz"))
  | (with_reducible apply lf_T2)
  | ((with_reducible apply lf_mod); (tbr_iter "cd"))
  | ((with_reducible apply lf_fdiv); (tbr_iter "cd"); (tbr_iter "cd"))
  | ((with_reducible apply lf_pow); (tbr_iter "cd"); (tbr_iter "cd"); (tbr_iter "cd"))
  | (with_reducible apply lf_mulB)
  | ((with_reducible apply lf_mul2); (tbr_iter "ln"))
  | ((with_reducible apply lf_mulL); (tbr_iter "ln"); (tbr_iter "cd"); (tbr_iter "cd"))
  | ((with_reducible apply lf_mulI); (first | exact .inl (by decide +kernel) | exact .inr (by decide +kernel) | exact .inl (by tbr_iter "mb") | exact .inr (by tbr_iter "mb")))
  | (with_reducible apply lf_eqI)
  | (with_reducible apply lf_eqB)
  | (with_reducible apply lf_neB)
  | (with_reducible apply lf_neI)
  | ((with_reducible apply lf_ixL); (tbr_iter "ix"))
  | ((with_reducible apply lf_ixT); (tbr_iter "ix"))
  | ((with_reducible apply lf_ixP); (tbr_iter "lk"); (tbr_iter "ix"))
  | (with_reducible apply lf_lenL)
  | (with_reducible apply lf_lenT)
  | ((with_reducible apply lf_ixAbc); (tbr_iter "cd"); (tbr_iter "cd"))
  | ((with_reducible apply lf_lenX); (tbr_iter "ln"))
  | ((with_reducible apply lf_lenS); (tbr_iter "sz"))
  | ((with_reducible apply lf_lenP); (tbr_iter "lk"))
  | (with_reducible apply lf_abs)
  | (with_reducible apply lf_intI)
  | (with_reducible apply lf_intB)
  | ((with_reducible apply lf_slLto); (tbr_iter "cd"))
  | ((with_reducible apply lf_slLfr); (tbr_iter "cd"))
  | ((with_reducible apply lf_slLmid); (tbr_iter "cd"); (tbr_iter "cd"))
  | ((with_reducible apply lf_slTto); (tbr_iter "cd"))
  | ((with_reducible apply lf_slTfr); (tbr_iter "cd"))
  | ((with_reducible apply lf_slTmid); (tbr_iter "cd"); (tbr_iter "cd"))
  | ((with_reducible apply lf_slTneg); (tbr_iter "cd"))
  | ((with_reducible apply lf_slLneg); (tbr_iter "cd"))
  | (with_reducible apply lf_slL)
  | ((with_reducible apply lf_slXto); (tbr_iter "ln"); (tbr_iter "cd"))
  | ((with_reducible apply lf_slXfr); (tbr_iter "ln"); (tbr_iter "cd"))
  | ((with_reducible apply lf_slS); (tbr_iter "sz"))
  | (with_reducible apply lf_slR)
  | ((with_reducible apply lf_set0); (tbr_iter "lk"))
  | ((with_reducible apply lf_set1); (tbr_iter "lk"))
  | ((with_reducible apply lf_set2); (tbr_iter "lk"))
  | ((with_reducible apply lf_set3); (tbr_iter "lk"))
  | ((with_reducible apply lf_isi); (tbr_iter "ty"); (tbr_iter "kit"))
  | (with_reducible apply lf_isN)
  | (with_reducible apply lf_isnotN)
  | (with_reducible apply lf_is_bl)
  | (with_reducible apply lf_is_int)
  | (with_reducible apply lf_is_str)
  | (with_reducible apply lf_is_tup)
  | (with_reducible apply lf_is_lst)
  | (with_reducible apply lf_is_obj)
  | (with_reducible apply lf_is_dK)
  | (with_reducible apply lf_is_dT)
  | (with_reducible apply lf_is_ptr)
  | (with_reducible apply lf_isnot_bl)
  | (with_reducible apply lf_isnot_int)
  | (with_reducible apply lf_isnot_str)
  | (with_reducible apply lf_isnot_tup)
  | (with_reducible apply lf_isnot_lst)
  | (with_reducible apply lf_isnot_obj)
  | (with_reducible apply lf_isnot_dK)
  | (with_reducible apply lf_isnot_dT)
  | (with_reducible apply lf_isnot_ptr)
  | ((with_reducible apply lf_sqP); (tbr_iter "lk"))
  | ((with_reducible apply lf_inT'); (tbr_iter "ok"); (tbr_iter "oks"); (tbr_iter "eqn"))
  | ((with_reducible apply lf_inL'); (tbr_iter "ok"); (tbr_iter "oks"); (tbr_iter "eqn"))
  | ((with_reducible apply lf_inP'); (tbr_iter "lk"); (tbr_iter "ok"); (tbr_iter "oks"); (tbr_iter "eqn"))
  | ((with_reducible apply lf_ninT'); (tbr_iter "ok"); (tbr_iter "oks"); (tbr_iter "eqn"))
  | ((with_reducible apply lf_ninL'); (tbr_iter "ok"); (tbr_iter "oks"); (tbr_iter "eqn"))
  | ((with_reducible apply lf_ninP'); (tbr_iter "lk"); (tbr_iter "ok"); (tbr_iter "oks"); (tbr_iter "eqn"))
  | ((with_reducible apply lf_eqS); (tbr_iter "ok"); (tbr_iter "ok"))
  | ((with_reducible apply lf_neS); (tbr_iter "ok"); (tbr_iter "ok"))
  | ((with_reducible apply lf_eq'); (tbr_iter "ok"); (tbr_iter "ok"); (tbr_iter "eqn"))
  | ((with_reducible apply lf_ne'); (tbr_iter "ok"); (tbr_iter "ok"); (tbr_iter "eqn")))
local macro_rules | `(tactic| tbr_iter "di") => `(tactic| first
  | ((with_reducible apply di_range1); (tbr_iter "s"); (tbr_iter "mem"); (exact Sc.bt (by tbr_iter "s") _ (by tbr_iter "mem")); (tbr_iter "r"))
  | ((with_reducible apply di_range2); (tbr_iter "s"); (tbr_iter "mem"); (exact Sc.bt (by tbr_iter "s") _ (by tbr_iter "mem")); (tbr_iter "r"); (tbr_iter "r"))
  | ((with_reducible apply di_zip); (tbr_iter "s"); (tbr_iter "mem"); (exact Sc.bt (by tbr_iter "s") _ (by tbr_iter "mem")); (tbr_iter "r"); (tbr_iter "r"))
  | ((with_reducible apply di_enum); (tbr_iter "s"); (tbr_iter "mem"); (exact Sc.bt (by tbr_iter "s") _ (by tbr_iter "mem")); (tbr_iter "r"))
  | (with_reducible apply di_it))
local macro_rules | `(tactic| tbr_iter "sp") => `(tactic| first
  | ((with_reducible apply lf_picsT); (decide +kernel); (decide +kernel))
  | ((with_reducible apply lf_picsF); (decide +kernel); (decide +kernel))
  | ((with_reducible apply lf_tieT); (decide +kernel); (decide +kernel))
  | ((with_reducible apply lf_tieF); (decide +kernel); (decide +kernel))
  | ((with_reducible apply lf_same); (with_unfolding_all first | exact rfl | assumption); (tbr_iter "sm"))
  | ((with_reducible apply lf_same'); (with_unfolding_all first | exact rfl | assumption); (tbr_iter "sm"))
  | (with_reducible apply lf_letters)
  | ((with_reducible apply lf_bag); (with_reducible assumption); (intro _ _ _ _))
  | ((with_reducible apply lf_names1); (with_reducible assumption); (with_reducible assumption); (intro _ _ _ _ _ _))
  | ((with_reducible apply lf_names); (with_reducible assumption); (with_reducible assumption); (tbr_iter "cd"); (tbr_iter "cd"); (intro _ _ _ _ _))
  | ((with_reducible apply lf_draw); (with_reducible assumption); (with_reducible assumption); (tbr_iter "cd"); (tbr_iter "cd"); (intro _ _ _ _ _ _))
  | ((with_reducible apply lf_pickS); (with_reducible assumption); (with_reducible assumption); (decide +kernel); (decide +kernel); (intro _ _ _ _ _))
  | ((with_reducible apply lf_pickStr); (with_reducible assumption); (with_reducible assumption); (with_unfolding_all exact Nat.le_of_ble_eq_true rfl); (with_unfolding_all exact Nat.le_of_ble_eq_true rfl); (tbr_iter "alls"); (intro _ _ _ _ _ _ _))
  | ((with_reducible apply lf_pickInt); (with_reducible assumption); (with_reducible assumption); (with_unfolding_all exact Nat.le_of_ble_eq_true rfl); (with_unfolding_all exact Nat.le_of_ble_eq_true rfl); (tbr_iter "alli"); (intro _ _ _ _ _))
  | ((with_reducible apply lf_pickSm); (with_reducible assumption); (with_reducible assumption); (with_unfolding_all exact Nat.le_of_ble_eq_true rfl); (with_unfolding_all exact Nat.le_of_ble_eq_true rfl); (tbr_iter "sms"); (intro _ _ _ _ _ _))
  | ((with_reducible apply lf_pickL); (with_reducible assumption); (with_reducible assumption); (with_unfolding_all exact Nat.le_of_ble_eq_true rfl); (with_unfolding_all exact Nat.le_of_ble_eq_true rfl); (intro _ _ _ _ _))
  | ((with_reducible apply lf_pickT); (with_reducible assumption); (with_reducible assumption); (with_unfolding_all exact Nat.le_of_ble_eq_true rfl); (with_unfolding_all exact Nat.le_of_ble_eq_true rfl); (intro _ _ _ _ _))
  | ((with_reducible apply lf_isnum); (tbr_iter "sm"))
  | ((with_reducible apply lf_isnameT); (with_reducible assumption))
  | ((with_reducible apply lf_isname); (tbr_iter "sm"))
  | ((with_reducible apply lf_ispic); (tbr_iter "sm"))
  | ((with_reducible apply lf_issay); (tbr_iter "sm"))
  | ((with_reducible apply lf_some); (with_reducible assumption); (with_reducible assumption); (intro _ _ _ _ _)))
local macro_rules | `(tactic| tbr_iter "dg") => `(tactic| first
  | ((with_reducible apply dg_name); (tbr_iter "s"); (tbr_iter "put"); (tbr_iter "mem"))
  | ((with_reducible apply dg_tupA); (tbr_iter "s"); (with_unfolding_all exact rfl); (tbr_iter "r"); (tbr_iter "r"))
  | ((with_reducible apply dg_starA (i := 1)); (tbr_iter "s"); (with_unfolding_all exact rfl); (tbr_iter "r"); (tbr_iter "r"); (tbr_iter "ln"); (tbr_iter "ln"))
  | ((with_reducible apply dg_starA (i := 2)); (tbr_iter "s"); (with_unfolding_all exact rfl); (tbr_iter "r"); (tbr_iter "r"); (tbr_iter "ln"); (tbr_iter "ln")))
local macro_rules | `(tactic| tbr_iter "dgs") => `(tactic| first
  | (with_reducible apply dgs_nil)
  | ((with_reducible apply dgs_cons); (tbr_iter "r"))
  | ((with_reducible apply dgs_consS); (tbr_iter "r")))
local macro_rules | `(tactic| tbr_iter "dgv") => `(tactic| first
  | ((with_reducible apply dgv_name); (tbr_iter "s"); (tbr_iter "put"); (tbr_iter "mem"); (with_unfolding_all decide)))
local macro_rules | `(tactic| tbr_iter "d0") => `(tactic| first
  | (with_reducible apply hG; tbr_iter "dg")
  | (with_reducible apply hGs; tbr_iter "dgs")
  | (with_reducible apply hGV; tbr_iter "dgv")
  | (with_reducible apply hE; tbr_iter "de")
  | (with_reducible apply hI; tbr_iter "di")
  | (with_reducible apply hT; tbr_iter "dt")
  | (with_reducible apply hS; tbr_iter "ds")
  | tbr_iter "da"
  | tbr_iter "dt"
  | tbr_iter "lf"
  | tbr_iter "sp"
  | tbr_iter "fin")
local macro_rules | `(tactic| tbr_iter "e0") => `(tactic| first
  | (with_reducible apply hG; tbr_iter "dg")
  | (with_reducible apply hGs; tbr_iter "dgs")
  | (with_reducible apply hGV; tbr_iter "dgv")
  | (with_reducible apply hE; tbr_iter "de")
  | (with_reducible apply hI; tbr_iter "di")
  | (with_reducible apply hT; tbr_iter "dt")
  | tbr_iter "da"
  | tbr_iter "dt"
  | tbr_iter "lf"
  | tbr_iter "sp"
  | tbr_iter "fin")
local macro_rules | `(tactic| tbr_iter "e") => `(tactic| (with_reducible apply nP; tbr_iter "e0"))
local macro_rules | `(tactic| tbr_iter "s1") => `(tactic| (with_reducible apply hS; tbr_iter "ds"; all_goals repeat' tbr_iter "e"))
local macro_rules | `(tactic| tbr_iter "d") => `(tactic| (with_reducible apply nP; tbr_iter "d0"))
local macro_rules | `(tactic| tbr_iter "dd") => `(tactic| repeat' tbr_iter "d")
section
variable {P : Program} {W : World} {K : PySem.W.Frag} {mg : Str → Option Value} {base : Heap}
theorem ok_is_name (T : TopFn K mg "is_name" (top 3)) (hB : ∀ x ∈ allB, mg x = none) (GLETTERS : Gc mg "LETTERS" (.str abc)) : FnD P W K mg base 1 "is_name" ["value"] [⟨0, ["value"], [0]⟩] (sp_is_name) := by
  obtain ⟨gm, fd, F⟩ := T
  refine fnD_of ["value"] ["sign"] ["value"] ⟨["value"], ["value"], [], ["isinstance", "str", "len", "all"], ["isinstance", "str", "len", "all"]⟩ gm F (by decide +kernel) (bsub hB (by decide +kernel)) ?kb ?len ?body
  case kb => exact F.kbs fun _ _ _ _ _ _ => kw_cons (fun us ws hu hw => match us, ws, hu, hw with | [], [_], _, _ => rfl) (kw_nil)
  case len => rintro ds M Q E ⟨v, hv, rfl, q⟩; rfl
  case body =>
    rintro X w ds M Q E rfl rfl rfl rfl rfl hN hsc Sx ⟨v, hv, rfl, q⟩ he
    show DS X w (_ :: _) ([("value", 0, (some v))] : Ga) _ _
    rcases D.smc hv with rfl | ⟨b, rfl⟩ | ⟨i, rfl⟩ | ⟨l, rfl, hl⟩ | ⟨ds, rfl⟩ | ⟨ds, rfl⟩
    all_goals tbr_iter "dd"
    all_goals first | exact q | skip
    · refine de_lcN Sx hN hsc 1 [] ⟨["sign"], ["sign"], [], ["LETTERS"], []⟩ (by decide +kernel) (by tbr_iter "mem") (by tbr_iter "mems") (by tbr_iter "pk") (by tbr_iter "nd") (fun _ => rfl) ?_
      refine lcN_map l (fun c => .str (tx [c])) (fun c => .bl (decide (c ∈ abc.cps.toList))) (by rw [sizeLine_eq]; omega) ?hi ?he ?q
      case hi =>
        tbr_iter "dd"
        exact ⟨rfl, rfl⟩
      case he =>
        intro c hc s0 H0 C cl fp Sb
        tbr_iter "dd"
        exact ⟨rfl, rfl⟩
      case q =>
        tbr_iter "dd"
        rename_i h1 h
        exact qb q (by simp only [isName, tx_l]; rw [decide_eq_true (by omega), decide_eq_true (by omega)]; rfl)
    · rename_i h
      exact qb q (by simp only [isName, tx_l]; rw [decide_eq_false (p := l.length ≤ 8) (by omega)]; simp)
    · rename_i h
      exact qb q (by simp only [isName, tx_l]; rw [decide_eq_false (p := 1 ≤ l.length) (by omega)]; simp)
theorem ok_is_number (T : TopFn K mg "is_number" (top 4)) (hB : ∀ x ∈ allB, mg x = none)  : FnD P W K mg base 1 "is_number" ["value", "low", "high"] [⟨0, ["high", "low", "value"], [2, 1, 0]⟩] (sp_is_number) := by
  obtain ⟨gm, fd, F⟩ := T
  refine fnD_of ["value", "low", "high"] [] ["value", "low", "high"] ⟨["value", "low", "high"], ["value", "low", "high"], [], ["isinstance", "int", "bool"], ["isinstance", "int", "bool"]⟩ gm F (by decide +kernel) (bsub hB (by decide +kernel)) ?kb ?len ?body
  case kb => exact F.kbs fun _ _ _ _ _ _ => kw_cons (fun us ws hu hw => match us, ws, hu, hw with | [], [_, _, _], _, _ => rfl) (kw_nil)
  case len => rintro ds M Q E ⟨v, lo, hi, hv, rfl, q⟩; rfl
  case body =>
    rintro X w ds M Q E rfl rfl rfl rfl rfl hN hsc Sx ⟨v, lo, hi, hv, rfl, q⟩ he
    show DS X w (_ :: _) ([("value", 0, (some v)), ("low", 1, (some (.int lo))), ("high", 2, (some (.int hi)))] : Ga) _ _
    rcases D.smc hv with rfl | ⟨b, rfl⟩ | ⟨i, rfl⟩ | ⟨l, rfl, hl⟩ | ⟨ds, rfl⟩ | ⟨ds, rfl⟩
    all_goals tbr_iter "dd"
    all_goals first | exact q | skip
    · rename_i h; exact qb q (by simp [isNum, h])
    · rename_i h; exact qb q (by simp [isNum, h])
theorem ok__law_draw (T : TopFn K mg "_law_draw" (top 8)) (hB : ∀ x ∈ allB, mg x = none)  : FnD P W K mg base 1 "_law_draw" ["_law_bag_here", "_law_many"] [] (sp__law_draw) := by
  obtain ⟨gm, fd, F⟩ := T
  refine fnD_of ["_law_bag_here", "_law_many", "_law_cell", "_law_got"] [] ["_law_bag_here", "_law_many"] ⟨["_law_bag_here", "_law_many", "_law_cell", "_law_got"], ["_law_bag_here", "_law_many", "_law_cell", "_law_got"], [], ["len", "abs", "int"], ["len", "abs", "int"]⟩ gm F (by decide +kernel) (bsub hB (by decide +kernel)) ?kb ?len ?body
  case kb => exact kw_nil
  case len => rintro ds M Q E ⟨p, m, ⟨b, hb⟩, rfl, hm, hm2, q⟩; rfl
  case body =>
    rintro X w ds M Q E rfl rfl rfl rfl rfl hN hsc Sx ⟨p, m, ⟨b, hb⟩, rfl, hm, hm2, q⟩ he
    show DS X w (_ :: _) ([("_law_bag_here", 0, (some (.ptr p))), ("_law_many", 1, (some (.int m))), ("_law_cell", 2, none), ("_law_got", 3, none)] : Ga) _ _
    have hb4 := b.h4
    have hb5 := b.h5
    -- the first if, both ways to I
    refine ds_ifI (fun Γ' M' => ∃ b' : Bag, M' p = some b'.cell ∧ Keep p M M' ∧ ∃ o2 o3, Γ' = ([("_law_bag_here", 0, (some (.ptr p))), ("_law_many", 1, (some (.int m))), ("_law_cell", 2, o2), ("_law_got", 3, o3)] : Ga)) ?_ ?_
    · tbr_iter "dd"
      · rename_i h1 h2
        rw [List.length_map] at h2
        obtain ⟨j, hj⟩ : ∃ j : Nat, b.nx = j := ⟨b.nx.toNat, by have := b.h1; omega⟩
        have hj2 : j < b.cells.length := by omega
        refine lf_ixL (d := .int b.cells[j]) (by rw [hj]; exact atI_nat (by simp [hj2])) ?_
        tbr_iter "dd"
        · exact ⟨⟨b.cells, b.nx + 1, if b.cells[j] < 0 then -b.cells[j] else b.cells[j], b.mx, by omega, by omega, by split <;> omega, by omega, by omega, b.h6⟩, by rw [Mm.put_same]; rfl, by rw [Mm.put_put]; exact Keep.put, _, _, rfl⟩
        · exact ⟨⟨b.cells, b.nx + 1, b.gr, (b.mx * 40129 + b.cells[j] % 1000081 * 839 + 53) % 2147483543, by omega, by omega, b.h3, by omega, by omega, b.h6⟩, by rw [Mm.put_same]; rfl, by rw [Mm.put_put]; exact Keep.put, _, _, rfl⟩
      · exact ⟨b, hb, Keep.refl _ _, _, _, rfl⟩
      · exact ⟨b, hb, Keep.refl _ _, _, _, rfl⟩
    · rintro Γ' M' ⟨b', hb', kp, o2, o3, rfl⟩
      have hb4 := b'.h4
      have hb5 := b'.h5
      have hb3 := b'.h3
      tbr_iter "dd"
      · exact q _ _ (Int.emod_nonneg _ (by omega)) (Int.emod_lt_of_pos _ hm) ⟨⟨b'.cells, b'.nx, b'.gr / m, b'.mx, b'.h1, b'.h2, Int.ediv_nonneg hb3 (by omega), hb4, hb5, b'.h6⟩, by rw [Mm.put_same]; rfl⟩ (kp.trans Keep.put)
      · exact q _ _ (Int.emod_nonneg _ (by omega)) (Int.emod_lt_of_pos _ hm) ⟨⟨b'.cells, b'.nx, b'.gr, (b'.mx * b'.mx * 5 + b'.mx * 31013 + 1700021) % 2147483563, b'.h1, b'.h2, hb3, by omega, by omega, b'.h6⟩, by rw [Mm.put_same]; rfl⟩ (kp.trans Keep.put)
theorem ok__law_letters (T : TopFn K mg "_law_letters" (top 10)) (hB : ∀ x ∈ allB, mg x = none)  : FnD P W K mg base 1 "_law_letters" [] [] (sp__law_letters) := by
  obtain ⟨gm, fd, F⟩ := T
  refine fnD_of [] [] [] ⟨[], [], [], [], []⟩ gm F (by decide +kernel) (bsub hB (by decide +kernel)) ?kb ?len ?body
  case kb => exact kw_nil
  case len => rintro ds M Q E ⟨rfl, q⟩; rfl
  case body =>
    rintro X w ds M Q E rfl rfl rfl rfl rfl hN hsc Sx ⟨rfl, q⟩ he
    show DS X w (_ :: _) ([] : Ga) _ _
    tbr_iter "dd"
    exact q
theorem ok__law_bag (T : TopFn K mg "_law_bag" (top 12)) (hB : ∀ x ∈ allB, mg x = none)  : FnD P W K mg base 1 "_law_bag" ["_law_script"] [] (sp__law_bag) := by
  obtain ⟨gm, fd, F⟩ := T
  refine fnD_of ["_law_script", "_law_cells"] [] ["_law_script"] ⟨["_law_script", "_law_cells"], ["_law_script", "_law_cells"], [], ["list", "len"], ["list", "len"]⟩ gm F (by decide +kernel) (bsub hB (by decide +kernel)) ?kb ?len ?body
  case kb => exact kw_nil
  case len => rintro ds M Q E ⟨ns, rfl, hn, q⟩; rfl
  case body =>
    rintro X w ds M Q E rfl rfl rfl rfl rfl hN hsc Sx ⟨ns, rfl, hn, q⟩ he
    show DS X w (_ :: _) ([("_law_script", 0, (some (.scr ns))), ("_law_cells", 1, none)] : Ga) _ _
    iterate 13 tbr_iter "d"
    refine de_lstM ?_
    tbr_iter "dd"
    intro p hp
    have e1 : cutD (ns.map .int) none (some (63 : Int)) = ns.map .int := by
      rw [show (63 : Int) = ((63 : Nat) : Int) from rfl, cutD_to, List.take_of_length_le (by simpa using hn)]
    rw [e1]
    tbr_iter "fin"
    exact q p _ hp ⟨⟨ns, 0, 0, 10025 + 13 * (ns.length : Int), Int.le_refl _, by omega, Int.le_refl _, by omega, by omega, hn⟩, by rw [Mm.put_same]; simp [Bag.cell]⟩ Keep.put
theorem ok__law_is_number (T : TopFn K mg "_law_is_number" (top 14)) (hB : ∀ x ∈ allB, mg x = none)  : FnD P W K mg base 1 "_law_is_number" ["_law_my_value", "_law_my_low", "_law_my_high"] [] (sp__law_is_number) := by
  obtain ⟨gm, fd, F⟩ := T
  refine fnD_of ["_law_my_value", "_law_my_low", "_law_my_high"] [] ["_law_my_value", "_law_my_low", "_law_my_high"] ⟨["_law_my_value", "_law_my_low", "_law_my_high"], ["_law_my_value", "_law_my_low", "_law_my_high"], [], ["isinstance", "int", "bool"], ["isinstance", "int", "bool"]⟩ gm F (by decide +kernel) (bsub hB (by decide +kernel)) ?kb ?len ?body
  case kb => exact kw_nil
  case len => rintro ds M Q E ⟨v, lo, hi, hv, rfl, q⟩; rfl
  case body =>
    rintro X w ds M Q E rfl rfl rfl rfl rfl hN hsc Sx ⟨v, lo, hi, hv, rfl, q⟩ he
    show DS X w (_ :: _) ([("_law_my_value", 0, (some v)), ("_law_my_low", 1, (some (.int lo))), ("_law_my_high", 2, (some (.int hi)))] : Ga) _ _
    rcases D.smc hv with rfl | ⟨b, rfl⟩ | ⟨i, rfl⟩ | ⟨l, rfl, hl⟩ | ⟨ds, rfl⟩ | ⟨ds, rfl⟩
    all_goals tbr_iter "dd"
    all_goals first | exact q | skip
    · rename_i h; exact qb q (by simp [isNum, h])
    · rename_i h; exact qb q (by simp [isNum, h])
theorem ok_is_picture (T : TopFn K mg "is_picture" (top 5)) (hB : ∀ x ∈ allB, mg x = none) (GMOST_PICTURES : Gc mg "MOST_PICTURES" (.int 24)) (Cis_number : FnD P W K mg base 1 "is_number" ["value", "low", "high"] [⟨0, ["high", "low", "value"], [2, 1, 0]⟩] (sp_is_number)) : FnD P W K mg base 2 "is_picture" ["value"] [] (sp_is_picture) := by
  obtain ⟨gm, fd, F⟩ := T
  refine fnD_of ["value"] [] ["value"] ⟨["value"], ["value"], [], ["is_number", "MOST_PICTURES"], []⟩ gm F (by decide +kernel) (bsub hB (by decide +kernel)) ?kb ?len ?body
  case kb => exact kw_nil
  case len => rintro ds M Q E ⟨v, hv, rfl, q⟩; rfl
  case body =>
    rintro X w ds M Q E rfl rfl rfl rfl rfl hN hsc Sx ⟨v, hv, rfl, q⟩ he
    show DS X w (_ :: _) ([("value", 0, (some v))] : Ga) _ _
    tbr_iter "dd"
    exact q
theorem ok__law_pick (T : TopFn K mg "_law_pick" (top 9)) (hB : ∀ x ∈ allB, mg x = none) (C_law_draw : FnD P W K mg base 1 "_law_draw" ["_law_bag_here", "_law_many"] [] (sp__law_draw)) : FnD P W K mg base 2 "_law_pick" ["_law_bag_here", "_law_some_here"] [] (sp__law_pick) := by
  obtain ⟨gm, fd, F⟩ := T
  refine fnD_of ["_law_bag_here", "_law_some_here"] [] ["_law_bag_here", "_law_some_here"] ⟨["_law_bag_here", "_law_some_here"], ["_law_bag_here", "_law_some_here"], [], ["_law_draw", "len"], ["len"]⟩ gm F (by decide +kernel) (bsub hB (by decide +kernel)) ?kb ?len ?body
  case kb => exact kw_nil
  case len => rintro ds M Q E ⟨p, x, hb, rfl, h⟩; rfl
  case body =>
    rintro X w ds M Q E rfl rfl rfl rfl rfl hN hsc Sx ⟨p, x, hb, rfl, h⟩ he
    show DS X w (_ :: _) ([("_law_bag_here", 0, (some (.ptr p))), ("_law_some_here", 1, (some x))] : Ga) _ _
    rcases h with ⟨xs, rfl | rfl, l0, l1, q⟩ | ⟨s, rfl, l0, l1, q⟩
    · tbr_iter "dd"
      refine ⟨p, _, hb, rfl, by omega, by omega, fun i M' i0 i1 hb' kp => ?_⟩
      obtain ⟨j, rfl⟩ : ∃ j : Nat, i = j := ⟨i.toNat, by omega⟩
      have hj : j < xs.length := by omega
      refine lf_ixL (d := xs[j]) (atI_nat (by simp [hj])) ?_
      tbr_iter "dd"
      exact q _ (List.getElem_mem hj) M' hb' kp
    · tbr_iter "dd"
      refine ⟨p, _, hb, rfl, by omega, by omega, fun i M' i0 i1 hb' kp => ?_⟩
      obtain ⟨j, rfl⟩ : ∃ j : Nat, i = j := ⟨i.toNat, by omega⟩
      have hj : j < xs.length := by omega
      refine lf_ixT (d := xs[j]) (atI_nat (by simp [hj])) ?_
      tbr_iter "dd"
      exact q _ (List.getElem_mem hj) M' hb' kp
    · have hsz : s.length ≤ sizeLine := by rw [sizeLine_eq]; omega
      have hl : s.length = s.cps.toList.length := by simp [Str.length]
      tbr_iter "dd"
      refine ⟨p, _, hb, rfl, by omega, by omega, fun i M' i0 i1 hb' kp => ?_⟩
      obtain ⟨j, rfl⟩ : ∃ j : Nat, i = j := ⟨i.toNat, by omega⟩
      have hj : j < s.cps.toList.length := by omega
      refine ⟨hsz, s.cps.toList[j], atI_nat (List.getElem?_eq_getElem hj), ?_⟩
      tbr_iter "dd"
      exact q _ (List.getElem_mem hj) M' hb' kp
theorem ok__law_is_name (T : TopFn K mg "_law_is_name" (top 15)) (hB : ∀ x ∈ allB, mg x = none) (C_law_letters : FnD P W K mg base 1 "_law_letters" [] [] (sp__law_letters)) : FnD P W K mg base 2 "_law_is_name" ["_law_my_value"] [] (sp__law_is_name) := by
  obtain ⟨gm, fd, F⟩ := T
  refine fnD_of ["_law_my_value"] ["_law_sign"] ["_law_my_value"] ⟨["_law_my_value"], ["_law_my_value"], [], ["isinstance", "str", "len", "all"], ["isinstance", "str", "len", "all"]⟩ gm F (by decide +kernel) (bsub hB (by decide +kernel)) ?kb ?len ?body
  case kb => exact kw_nil
  case len => rintro ds M Q E ⟨v, hv, rfl, q⟩; rfl
  case body =>
    rintro X w ds M Q E rfl rfl rfl rfl rfl hN hsc Sx ⟨v, hv, rfl, q⟩ he
    show DS X w (_ :: _) ([("_law_my_value", 0, (some v))] : Ga) _ _
    rcases D.smc hv with rfl | ⟨b, rfl⟩ | ⟨i, rfl⟩ | ⟨l, rfl, hl⟩ | ⟨ds, rfl⟩ | ⟨ds, rfl⟩
    any_goals (tbr_iter "dd"; exact q; done)
    tbr_iter "dd"
    · rename_i h0 h
      exact qb q (by simp only [isName, tx_l]; rw [decide_eq_false (p := l.length ≤ 8) (by omega)]; simp)
    · rename_i h0 h1
      refine de_lcN Sx hN hsc 1 [] ⟨["_law_sign"], ["_law_sign"], [], ["_law_letters"], []⟩ (by decide +kernel) (by tbr_iter "mem") (by tbr_iter "mems") (by tbr_iter "pk") (by tbr_iter "nd") (fun _ => rfl) ?_
      refine lcN_map l (fun c => .str (tx [c])) (fun c => .bl (decide (c ∈ abc.cps.toList))) (by rw [sizeLine_eq]; omega) ?hi ?he ?q
      case hi =>
        tbr_iter "dd"
        exact ⟨rfl, rfl⟩
      case he =>
        intro c hc s0 H0 C cl fp Sb
        tbr_iter "dd"
        exact ⟨rfl, rfl⟩
      case q =>
        tbr_iter "dd"
        exact qb q (by simp only [isName, tx_l]; rw [decide_eq_true (by omega), decide_eq_true (by omega)]; rfl)
    · rename_i h
      exact qb q (by simp only [isName, tx_l]; rw [decide_eq_false (p := 1 ≤ l.length) (by omega)]; simp)
theorem ok_is_saying (T : TopFn K mg "is_saying" (top 6)) (hB : ∀ x ∈ allB, mg x = none) (Cis_picture : FnD P W K mg base 2 "is_picture" ["value"] [] (sp_is_picture)) (Cis_name : FnD P W K mg base 1 "is_name" ["value"] [⟨0, ["value"], [0]⟩] (sp_is_name)) : FnD P W K mg base 3 "is_saying" ["value"] [⟨0, ["value"], [0]⟩] (sp_is_saying) := by
  obtain ⟨gm, fd, F⟩ := T
  refine fnD_of ["value", "word", "picture", "rest"] [] ["value"] ⟨["value", "word", "picture", "rest"], ["value", "word", "picture", "rest"], [], ["isinstance", "tuple", "len", "str", "is_picture", "is_name"], ["isinstance", "tuple", "len", "str"]⟩ gm F (by decide +kernel) (bsub hB (by decide +kernel)) ?kb ?len ?body
  case kb => exact F.kbs fun _ _ _ _ _ _ => kw_cons (fun us ws hu hw => match us, ws, hu, hw with | [], [_], _, _ => rfl) (kw_nil)
  case len => rintro ds M Q E ⟨v, hv, rfl, q⟩; rfl
  case body =>
    rintro X w ds M Q E rfl rfl rfl rfl rfl hN hsc Sx ⟨v, hv, rfl, q⟩ he
    show DS X w (_ :: _) ([("value", 0, (some v)), ("word", 1, none), ("picture", 2, none), ("rest", 3, none)] : Ga) _ _
    rcases D.smc hv with rfl | ⟨b, rfl⟩ | ⟨i, rfl⟩ | ⟨l, rfl, hl⟩ | ⟨ds, rfl⟩ | ⟨ds, rfl⟩
    any_goals (tbr_iter "dd"; exact q; done)
    rcases ds with _ | ⟨a, _ | ⟨b, rest⟩⟩
    any_goals (tbr_iter "dd"; exact q; done)
    · tbr_iter "dd"
      exact qb q (by simp [isSay])
    · obtain ⟨m, hm, hln, hs⟩ := sm_tups hv
      obtain rfl : m = 7 := by omega
      obtain ⟨ha, hs⟩ := sms_consI hs
      obtain ⟨hb, hr⟩ := sms_consI hs
      have hb8 := sm7 hb
      have hr7 := sm_okk (n := 8) (sm_lst (by simp at hln; omega) hr) (by decide)
      rcases D.smc ha with rfl | ⟨x, rfl⟩ | ⟨x, rfl⟩ | ⟨wd, rfl, hl⟩ | ⟨x, rfl⟩ | ⟨x, rfl⟩
      any_goals (tbr_iter "dd"; exact q; done)
      tbr_iter "dd"
      · exact qb q (by rename_i h; simp [isSay, h])
      · rename_i hn
        obtain ⟨j, rfl, j0, j1⟩ := isNum_int hn
        simp only [List.take_succ_cons, List.take_zero, List.drop_succ_cons, List.drop_zero, List.cons_append, List.nil_append]
        rcases rest with _ | ⟨c, _ | ⟨c2, rest⟩⟩
        · tbr_iter "dd"
          · exact qb q (by rename_i h1; simp [isSay, hn, h1])
          · exact qb q (by rename_i h1; simp [isSay, hn, h1])
        · have hc8 := sm7 (sms_consI hr).1
          tbr_iter "dd"
          · exact qb q (by rename_i h1; simp [isSay, hn, h1])
          · exact qb q (by rename_i h0 h1; simp [isSay, hn, h1, show ¬ (("is" : Str) = "nobody") by decide +kernel])
          · exact qb q (by rename_i h0 h1 h2 h3; simp [isSay, hn, h0, h1, h2, h3])
          · exact qb q (by rename_i h0 h1 h2 h3; simp [isSay, hn, h0, h1, h2, h3])
          · exact qb q (by rename_i h0 h1 h2; simp [isSay, hn, h0, h1, h2])
        · tbr_iter "dd"
          · exact qb q (by rename_i h1; simp [isSay, hn, h1])
          · exact qb q (by rename_i h1; simp [isSay, hn, h1])
theorem ok__law_names (T : TopFn K mg "_law_names" (top 11)) (hB : ∀ x ∈ allB, mg x = none) (C_law_draw : FnD P W K mg base 1 "_law_draw" ["_law_bag_here", "_law_many"] [] (sp__law_draw)) (C_law_pick : FnD P W K mg base 2 "_law_pick" ["_law_bag_here", "_law_some_here"] [] (sp__law_pick)) (C_law_letters : FnD P W K mg base 1 "_law_letters" [] [] (sp__law_letters)) : FnD P W K mg base 3 "_law_names" ["_law_bag_here", "_law_many"] [] (sp__law_names) := by
  obtain ⟨gm, fd, F⟩ := T
  refine fnD_of ["_law_bag_here", "_law_many", "_law_stem", "_law_spot", "_law_base", "_law_step", "_law_more", "_law_found", "_law_k", "_law_sign"] [] ["_law_bag_here", "_law_many"] ⟨["_law_bag_here", "_law_many", "_law_stem", "_law_spot", "_law_base", "_law_step", "_law_more", "_law_found", "_law_k", "_law_sign"], ["_law_many", "_law_stem", "_law_spot", "_law_base", "_law_step", "_law_more", "_law_found", "_law_k", "_law_sign"], ["_law_bag_here"], ["range", "_law_draw", "len", "_law_pick", "_law_letters", "int"], ["range", "len", "int"]⟩ gm F (by decide +kernel) (bsub hB (by decide +kernel)) ?kb ?len ?body
  case kb => exact kw_nil
  case len => rintro ds M Q E ⟨p, n, hb, rfl, h0, h1, q⟩; rfl
  case body =>
    rintro X w ds M Q E rfl rfl rfl rfl rfl hN hsc Sx ⟨p, n, hb, rfl, h0, h1, q⟩ he
    show DS X w (_ :: _) ([("_law_bag_here", 0, (some (.ptr p))), ("_law_many", 1, (some (.int n))), ("_law_stem", 2, none), ("_law_spot", 3, none), ("_law_base", 4, none), ("_law_step", 5, none), ("_law_more", 6, none), ("_law_found", 7, none), ("_law_k", 8, none), ("_law_sign", 9, none)] : Ga) _ _
    have kp := Keep.refl p M
    tbr_iter "dd"
    refine de_lcN Sx hN hsc 8 ["_law_bag_here"] ⟨["_law_k"], ["_law_k"], [], ["_law_pick", "_law_letters"], []⟩ (by decide +kernel) (by tbr_iter "mem") (by tbr_iter "mems") (by tbr_iter "pk") (by tbr_iter "nd") (fun _ => rfl) ?_
    tbr_iter "dd"
    rename_i i M1 i0 i1 hb1 kp1
    refine ⟨by rw [rngD_length, sizeLine_eq]; omega, fun j acc M' => BagAt M' p ∧ Keep p M M' ∧ ∃ cs : List Nat, acc = cs.map (fun c => D.str ⟨#[c]⟩) ∧ cs.length = j ∧ ∀ c ∈ cs, 97 ≤ c ∧ c ≤ 122, ⟨hb1, kp1, [], rfl, rfl, by simp⟩, ?_, ?_⟩
    · rintro j d acc M2 hd ⟨hb2, kp2, cs, rfl, hc1, hc2⟩ s0 H0 C cl fp Sb
      refine ⟨fun _ s1 H1 C1 cl1 fp1 Sb1 => ?_, fun e => by cases e⟩
      tbr_iter "dd"
      rename_i c M3 hc hb3 kp3
      refine ⟨hb3, kp3, cs ++ [c], by simp, by simp [hc1], fun z hz => ?_⟩
      rcases List.mem_append.mp hz with y | y
      · exact hc2 z y
      · rw [List.mem_singleton.mp y]; exact mem_abc.mp hc
    · rintro acc M2 ⟨hb2, kp2, cs, rfl, hc1, hc2⟩
      rw [rngD_length] at hc1
      refine ⟨cs.map fun c => ⟨#[c]⟩, by simp [D.seqM], ?_, ?_⟩
      · have : ("" : Str).length = 0 := by decide +kernel
        rw [this, List.map_map, show ((fun x : Str => x.length) ∘ fun c => (⟨#[c]⟩ : Str)) = fun _ => 1 from rfl]
        rw [List.map_const', List.sum_replicate_nat]; simp; omega
      · rw [join_signs]
        tbr_iter "dd"
        rename_i sp M3 s0 s1 hb3 kp3 ba M4 b0 b1 hb4 kp4 st M5 hst hb5 kp5 mo M6 hmo _ _ hb6 kp6 l hl
        obtain ⟨t1, t2⟩ : st ∈ ([1, 3, 5, 7] : List Int) ∧ (1 ≤ st ∧ st ≤ 7) := by
          simp only [List.mem_cons, List.not_mem_nil, or_false, D.int.injEq] at hst
          rcases hst with rfl | rfl | rfl | rfl <;> exact ⟨by simp, by omega⟩
        obtain ⟨m1, m2⟩ : mo.length ≤ 1 ∧ ∀ c ∈ mo, 97 ≤ c ∧ c ≤ 122 := by
          simp only [List.mem_cons, List.not_mem_nil, or_false, D.str.injEq] at hmo
          rcases hmo with h | h | h | h
          all_goals
            have h := congrArg (fun s : Str => s.cps.toList) h
            simp only [tx_l] at h
            rw [h]
            decide +kernel
        refine ds_for Sx (fun _ => rfl) ?_
        tbr_iter "dd"
        refine ⟨fun j Γ' M' => ∃ o8 o9, Γ' = ([("_law_bag_here", 0, (some (.ptr p))), ("_law_many", 1, (some (.int n))), ("_law_stem", 2, (some (.str (tx cs)))), ("_law_spot", 3, (some (.int sp))), ("_law_base", 4, (some (.int ba))), ("_law_step", 5, (some (.int st))), ("_law_more", 6, (some (.str (tx mo)))), ("_law_found", 7, (some (.ptr l))), ("_law_k", 8, o8), ("_law_sign", 9, o9)] : Ga) ∧ M' = M6.put l (.l ((List.range j).map fun k => .str (tx (nameAt cs sp ba st mo k)))), ⟨_, _, rfl, rfl⟩, ?_, ?_⟩
        · rintro j d Γ1 M' hd ⟨o8, o9, rfl, rfl⟩
          obtain ⟨hj, rfl⟩ := rngD_at0 hd
          tbr_iter "dd"
          refine ⟨_, _, rfl, ?_⟩
          rw [Mm.put_put, List.range_succ, List.map_append]
          rfl
        · rintro Γ1 M' ⟨o8, o9, rfl, rfl⟩
          rw [rngD_length]
          refine ds_ret (de_freeze ?_)
          tbr_iter "dd"
          have h2 : cs.length ≤ 4 := by omega
          have h3 : n.toNat ≤ 26 := by omega
          have z := q ((List.range n.toNat).map fun k => tx (nameAt cs sp ba st mo k)) ((M6.put l (.l ((List.range n.toNat).map fun k => .str (tx (nameAt cs sp ba st mo k))))).del l) (names_ok h2 hc2 m1 m2 t1 h3) (hb6.del hl) (keep_del kp6 hl rfl)
          rw [List.map_map] at z
          exact z
theorem ok__law_is_saying (T : TopFn K mg "_law_is_saying" (top 16)) (hB : ∀ x ∈ allB, mg x = none) (C_law_is_number : FnD P W K mg base 1 "_law_is_number" ["_law_my_value", "_law_my_low", "_law_my_high"] [] (sp__law_is_number)) (C_law_is_name : FnD P W K mg base 2 "_law_is_name" ["_law_my_value"] [] (sp__law_is_name)) : FnD P W K mg base 3 "_law_is_saying" ["_law_my_value"] [] (sp__law_is_saying) := by
  obtain ⟨gm, fd, F⟩ := T
  refine fnD_of ["_law_my_value"] [] ["_law_my_value"] ⟨["_law_my_value"], ["_law_my_value"], [], ["isinstance", "tuple", "len", "_law_is_number", "str", "_law_is_name"], ["isinstance", "tuple", "len", "str"]⟩ gm F (by decide +kernel) (bsub hB (by decide +kernel)) ?kb ?len ?body
  case kb => exact kw_nil
  case len => rintro ds M Q E ⟨v, hv, rfl, q⟩; rfl
  case body =>
    rintro X w ds M Q E rfl rfl rfl rfl rfl hN hsc Sx ⟨v, hv, rfl, q⟩ he
    show DS X w (_ :: _) ([("_law_my_value", 0, (some v))] : Ga) _ _
    rcases D.smc hv with rfl | ⟨b, rfl⟩ | ⟨i, rfl⟩ | ⟨l, rfl, hl⟩ | ⟨ds, rfl⟩ | ⟨ds, rfl⟩
    any_goals (tbr_iter "dd"; exact q; done)
    obtain ⟨m, hm, hln, hs⟩ := sm_tups hv
    obtain rfl : m = 7 := by omega
    rcases ds with _ | ⟨a, _ | ⟨b, _ | ⟨c, _ | ⟨d, rest⟩⟩⟩⟩
    · tbr_iter "dd"
      exact qb q rfl
    · tbr_iter "dd"
      exact qb q (by cases a <;> rfl)
    · have ha := (sms_consI hs).1
      have hb := sm7 (sms_consI (sms_consI hs).2).1
      rcases D.smc ha with rfl | ⟨x, rfl⟩ | ⟨x, rfl⟩ | ⟨wd, rfl, hl⟩ | ⟨x, rfl⟩ | ⟨x, rfl⟩
      all_goals tbr_iter "dd"
      any_goals exact q
      · rename_i h1; exact qb q (by simp [isSay, h1])
      · rename_i h1; exact qb q (by simp [isSay, h1])
    · have ha := (sms_consI hs).1
      have hb := sm7 (sms_consI (sms_consI hs).2).1
      have hc := sm7 (sms_consI (sms_consI (sms_consI hs).2).2).1
      rcases D.smc ha with rfl | ⟨x, rfl⟩ | ⟨x, rfl⟩ | ⟨wd, rfl, hl⟩ | ⟨x, rfl⟩ | ⟨x, rfl⟩
      all_goals tbr_iter "dd"
      any_goals exact q
      · rename_i h1; exact qb q (by simp [isSay, h1])
      · rename_i h1 h2; exact qb q (by simp [isSay, h1, h2, ne_is])
      · rename_i h1 h2 h3 h4
        have ne : ¬ tx wd = "nobody" := by rcases h3 with h | h <;> rw [← h] <;> first | exact ne_sn | exact ne_an
        exact qb q (by simp [isSay, h1, h2, h3, h4, ne])
      · rename_i h1 h2 h3 h4; exact qb q (by simp [isSay, h1, h2, h3, h4])
      · rename_i h1 h2 h3; exact qb q (by simp [isSay, h1, h2, h3])
    · tbr_iter "dd"
      exact qb q (by cases a <;> simp [isSay])
theorem ok__law_some (T : TopFn K mg "_law_some" (top 17)) (hB : ∀ x ∈ allB, mg x = none) (C_law_draw : FnD P W K mg base 1 "_law_draw" ["_law_bag_here", "_law_many"] [] (sp__law_draw)) (C_law_pick : FnD P W K mg base 2 "_law_pick" ["_law_bag_here", "_law_some_here"] [] (sp__law_pick)) (C_law_names : FnD P W K mg base 3 "_law_names" ["_law_bag_here", "_law_many"] [] (sp__law_names)) : FnD P W K mg base 4 "_law_some" ["_law_bag_here"] [] (sp__law_some) := by
  obtain ⟨gm, fd, F⟩ := T
  refine fnD_of ["_law_bag_here", "_law_one", "_law_two", "_law_found", "_law_way", "_law_at"] [] ["_law_bag_here"] ⟨["_law_bag_here", "_law_one", "_law_two", "_law_found", "_law_way", "_law_at"], ["_law_bag_here", "_law_one", "_law_two", "_law_found", "_law_way", "_law_at"], [], ["_law_draw", "_law_pick", "_law_names", "list", "len"], ["list", "len"]⟩ gm F (by decide +kernel) (bsub hB (by decide +kernel)) ?kb ?len ?body
  case kb => exact kw_nil
  case len => rintro ds M Q E ⟨p, hb, rfl, q⟩; rfl
  case body =>
    rintro X w ds M Q E rfl rfl rfl rfl rfl hN hsc Sx ⟨p, hb, rfl, q⟩ he
    show DS X w (_ :: _) ([("_law_bag_here", 0, (some (.ptr p))), ("_law_one", 1, none), ("_law_two", 2, none), ("_law_found", 3, none), ("_law_way", 4, none), ("_law_at", 5, none)] : Ga) _ _
    have kp := Keep.refl p M
    tbr_iter "s1"
    tbr_iter "s1"
    rename_i one M1 a0 a1 hb1 kp1 two M2 b0 b1 hb2 kp2 nm M3 hnm _ hb3 kp3 d M4 hd hsm hb4 kp4
    obtain ⟨ts, rfl, t1, t2, t3⟩ : ∃ ts, d = .tup ts ∧ D.sms 7 ts = true ∧ 2 ≤ ts.length ∧ ts.length ≤ 3 := by
      simp only [List.mem_cons, List.not_mem_nil, or_false] at hd
      rcases hd with rfl | rfl | rfl | rfl
      all_goals exact ⟨_, rfl, by tbr_iter "sms", by simp, by simp⟩
    tbr_iter "dd"
    · exact q _ _ (sm_lst (by omega) t1) (by assumption) (by assumption)
    · exact q _ _ (sm_tup (by rw [List.length_take]; omega) (sms_take t1 _)) (by assumption) (by assumption)
    · exact q _ _ (sm_tup (by simp; omega) (sms_app t1 (by tbr_iter "sms"))) (by assumption) (by assumption)
    · rename_i h7 _ _
      exact q _ _ (sm_tup (by simp; omega) (sms_app (sms_app (sms_take t1 _) (sms_cons h7 sms_nil)) (sms_drop t1 _))) (by assumption) (by assumption)
    · exact q _ _ (sm_tup (by omega) t1) (by assumption) (by assumption)
theorem ok__law_same_step (T : TopFn K mg "_law_same" (top 13)) (hB : ∀ x ∈ allB, mg x = none) (n : Nat) (ih : ∀ m, n = m + 1 → FnD P W K mg base (m + 1) "_law_same" ["_law_found", "_law_due"] [] (sp__law_same m)) : FnD P W K mg base (n + 1) "_law_same" ["_law_found", "_law_due"] [] (sp__law_same n) := by
  obtain ⟨gm, fd, F⟩ := T
  refine fnD_of ["_law_found", "_law_due"] ["_law_a", "_law_b"] ["_law_found", "_law_due"] ⟨["_law_found", "_law_due"], ["_law_found", "_law_due"], [], ["isinstance", "list", "len", "all", "zip", "tuple", "bool", "int", "str"], ["isinstance", "list", "len", "all", "zip", "tuple", "bool", "int", "str"]⟩ gm F (by decide +kernel) (bsub hB (by decide +kernel)) kw_nil ?len ?body
  case len => rintro ds M Q E ⟨x, rfl, _⟩; rfl
  case body =>
    rintro X w ds M Q E rfl rfl rfl rfl rfl hN hsc Sx ⟨x, rfl, hx, q⟩ he
    show DS X w (_ :: _) ([("_law_found", 0, (some x)), ("_law_due", 1, (some x))] : Ga) _ _
    cases x
    case ty => exact absurd hx (by simp [D.sm])
    case dK => exact absurd hx (by simp [D.sm])
    case dT => exact absurd hx (by simp [D.sm])
    case obj => exact absurd hx (by simp [D.sm])
    case ptr => exact absurd hx (by simp [D.sm])
    case scr => exact absurd hx (by simp [D.sm])
    case non => tbr_iter "dd"; exact q
    case bl => tbr_iter "dd"; simpa using q
    case int => tbr_iter "dd"; simpa using q
    case str s =>
      have h1 : D.ok 60 (.str s) = true := ok_str (sm_strok hx).1
      tbr_iter "dd"
      simpa using q
    case lst ds =>
      tbr_iter "dd"
      · obtain ⟨m, rfl⟩ : ∃ m, n = m + 1 := by cases n with | zero => exact absurd hx (by simp [D.sm]) | succ m => exact ⟨m, rfl⟩
        simp only [D.sm, Bool.and_eq_true, decide_eq_true_eq] at hx
        have Cs := ih m rfl
        refine de_lcT Sx hN hsc 2 3 [] ⟨["_law_a", "_law_b"], ["_law_a", "_law_b"], [], ["_law_same"], []⟩ (by decide +kernel) (by tbr_iter "mem") (by tbr_iter "mem") (by decide) (by decide) (by tbr_iter "pk") (by decide) (fun _ _ _ _ _ => rfl) (fun _ _ _ _ _ => rfl) (fun _ _ _ _ _ => rfl) (fun _ => rfl) ?_
        refine di_zip Sx (by tbr_iter "mem") (Sx.bt _ (by tbr_iter "mem")) (by tbr_iter "r") (by tbr_iter "r") ?_
        tbr_iter "dd"
        refine ⟨_, _, .inl rfl, ?_, fun j acc M' => M' = M ∧ acc = List.replicate j (.bl true), ⟨rfl, rfl⟩, ?_, ?_⟩
        · rw [zipD_length, Nat.min_self, sizeLine_eq]; omega
        · rintro j d acc M' hd ⟨rfl, rfl⟩
          rw [zipD_self, List.getElem?_map] at hd
          cases z : ds[j]? with
          | none => rw [z] at hd; cases hd
          | some y =>
            rw [z] at hd
            cases hd
            refine ⟨y, y, rfl, fun s0 H0 C cl fp Sb => ⟨fun _ s1 H1 C1 cl1 fp1 Sb1 => ?_, fun e => by cases e⟩⟩
            refine de_call Sb1 Cs (Nat.le_refl _) (by tbr_iter "mem") (by tbr_iter "r") (by tbr_iter "r") ?_
            tbr_iter "dd"
            refine ⟨y, rfl, D.sms_mem hx.2 (List.mem_of_getElem? z), rfl, ?_⟩
            rw [List.replicate_succ']
        · rintro acc M' ⟨rfl, rfl⟩
          refine ⟨List.replicate (zipD ds ds).length true, by rw [List.map_replicate], ?_⟩
          rw [all_rep]
          tbr_iter "dd"
          exact q
    case tup ds =>
      tbr_iter "dd"
      · obtain ⟨m, rfl⟩ : ∃ m, n = m + 1 := by cases n with | zero => exact absurd hx (by simp [D.sm]) | succ m => exact ⟨m, rfl⟩
        simp only [D.sm, Bool.and_eq_true, decide_eq_true_eq] at hx
        have Cs := ih m rfl
        refine de_lcT Sx hN hsc 2 3 [] ⟨["_law_a", "_law_b"], ["_law_a", "_law_b"], [], ["_law_same"], []⟩ (by decide +kernel) (by tbr_iter "mem") (by tbr_iter "mem") (by decide) (by decide) (by tbr_iter "pk") (by decide) (fun _ _ _ _ _ => rfl) (fun _ _ _ _ _ => rfl) (fun _ _ _ _ _ => rfl) (fun _ => rfl) ?_
        refine di_zip Sx (by tbr_iter "mem") (Sx.bt _ (by tbr_iter "mem")) (by tbr_iter "r") (by tbr_iter "r") ?_
        tbr_iter "dd"
        refine ⟨_, _, .inr rfl, ?_, fun j acc M' => M' = M ∧ acc = List.replicate j (.bl true), ⟨rfl, rfl⟩, ?_, ?_⟩
        · rw [zipD_length, Nat.min_self, sizeLine_eq]; omega
        · rintro j d acc M' hd ⟨rfl, rfl⟩
          rw [zipD_self, List.getElem?_map] at hd
          cases z : ds[j]? with
          | none => rw [z] at hd; cases hd
          | some y =>
            rw [z] at hd
            cases hd
            refine ⟨y, y, rfl, fun s0 H0 C cl fp Sb => ⟨fun _ s1 H1 C1 cl1 fp1 Sb1 => ?_, fun e => by cases e⟩⟩
            refine de_call Sb1 Cs (Nat.le_refl _) (by tbr_iter "mem") (by tbr_iter "r") (by tbr_iter "r") ?_
            tbr_iter "dd"
            refine ⟨y, rfl, D.sms_mem hx.2 (List.mem_of_getElem? z), rfl, ?_⟩
            rw [List.replicate_succ']
        · rintro acc M' ⟨rfl, rfl⟩
          refine ⟨List.replicate (zipD ds ds).length true, by rw [List.map_replicate], ?_⟩
          rw [all_rep]
          tbr_iter "dd"
          exact q
theorem ok__law_same (T : TopFn K mg "_law_same" (top 13)) (hB : ∀ x ∈ allB, mg x = none) : ∀ n, FnD P W K mg base (n + 1) "_law_same" ["_law_found", "_law_due"] [] (sp__law_same n)
  | 0 => ok__law_same_step T hB 0 fun m e => by cases e
  | n + 1 => ok__law_same_step T hB (n + 1) fun m e => by cases e; exact ok__law_same T hB n
theorem ok_law {fd : FuncData} (gm : mg "law" = some (.ref (ca mg "law"))) (F : Fun K "law" "law" (top 18) (ca mg "law") fd) (hB : ∀ x ∈ allB, mg x = none) (C_law_bag : FnD P W K mg base 1 "_law_bag" ["_law_script"] [] (sp__law_bag)) (C_law_some : FnD P W K mg base 4 "_law_some" ["_law_bag_here"] [] (sp__law_some)) (C_law_same : FnD P W K mg base 9 "_law_same" ["_law_found", "_law_due"] [] (sp__law_same 8)) (Cis_saying : FnD P W K mg base 3 "is_saying" ["value"] [⟨0, ["value"], [0]⟩] (sp_is_saying)) (C_law_is_saying : FnD P W K mg base 3 "_law_is_saying" ["_law_my_value"] [] (sp__law_is_saying)) (C_law_names : FnD P W K mg base 3 "_law_names" ["_law_bag_here", "_law_many"] [] (sp__law_names)) (C_law_draw : FnD P W K mg base 1 "_law_draw" ["_law_bag_here", "_law_many"] [] (sp__law_draw)) (C_law_pick : FnD P W K mg base 2 "_law_pick" ["_law_bag_here", "_law_some_here"] [] (sp__law_pick)) (Cis_name : FnD P W K mg base 1 "is_name" ["value"] [⟨0, ["value"], [0]⟩] (sp_is_name)) (Cis_number : FnD P W K mg base 1 "is_number" ["value", "low", "high"] [⟨0, ["high", "low", "value"], [2, 1, 0]⟩] (sp_is_number)) (C_law_is_name : FnD P W K mg base 2 "_law_is_name" ["_law_my_value"] [] (sp__law_is_name)) (C_law_is_number : FnD P W K mg base 1 "_law_is_number" ["_law_my_value", "_law_my_low", "_law_my_high"] [] (sp__law_is_number)) : FnOk P W K mg base (L2.CX P W) 10 (ca mg "law") fd ["_law_script"] (spD K mg sp_law) := by
  refine fnOk_of ["_law_script", "_law_bag_here", "_law_turn", "_law_some_here", "_law_text_z", "_law_spot", "_law_bent", "_law_small", "_law_great", "_law_odd"] ["_law_one"] ["_law_script"] ⟨["_law_script", "_law_bag_here", "_law_turn", "_law_some_here", "_law_text_z", "_law_spot", "_law_bent", "_law_small", "_law_great", "_law_odd"], ["_law_script", "_law_bag_here", "_law_turn", "_law_some_here", "_law_text_z", "_law_spot", "_law_bent", "_law_small", "_law_great", "_law_odd"], [], ["_law_bag", "range", "_law_some", "_law_same", "is_saying", "_law_is_saying", "_law_names", "_law_draw", "len", "_law_pick", "is_name", "is_number", "_law_is_name", "_law_is_number"], ["range", "len"]⟩ gm F (by decide +kernel) (bsub hB (by decide +kernel)) ?len ?body
  case len => rintro ds M Q E ⟨ns, rfl, hn, q⟩; rfl
  case body =>
    rintro X w ds M Q E rfl rfl rfl rfl rfl hN hsc Sx ⟨ns, rfl, hn, q⟩ he
    show DS X w (_ :: _) ([("_law_script", 0, (some (.scr ns))), ("_law_bag_here", 1, none), ("_law_turn", 2, none), ("_law_some_here", 3, none), ("_law_text_z", 4, none), ("_law_spot", 5, none), ("_law_bent", 6, none), ("_law_small", 7, none), ("_law_great", 8, none), ("_law_odd", 9, none)] : Ga) _ _
    tbr_iter "dd"
    rename_i p M0 hb0 kp0
    refine ds_for Sx (fun _ => rfl) ?_
    tbr_iter "dd"
    refine ⟨fun j Γ' M' => (∃ o_2 o_3 o_4 o_5 o_6 o_7 o_8 o_9 : Option D, Γ' = ([("_law_script", 0, (some (.scr ns))), ("_law_bag_here", 1, (some (.ptr p))), ("_law_turn", 2, o_2), ("_law_some_here", 3, o_3), ("_law_text_z", 4, o_4), ("_law_spot", 5, o_5), ("_law_bent", 6, o_6), ("_law_small", 7, o_7), ("_law_great", 8, o_8), ("_law_odd", 9, o_9)] : Ga)) ∧ BagAt M' p, ⟨⟨_, _, _, _, _, _, _, _, rfl⟩, hb0⟩, ?_, ?_⟩
    · rintro j d Γ1 M' hd ⟨⟨o_2, o_3, o_4, o_5, o_6, o_7, o_8, o_9, rfl⟩, hb⟩
      have kp := Keep.refl p M'
      obtain ⟨hj, rfl⟩ := rngD_at0 hd
      tbr_iter "dd"
      exact ⟨⟨_, _, _, _, _, _, _, _, rfl⟩, by assumption⟩
    · rintro Γ1 M' ⟨⟨o_2, o_3, o_4, o_5, o_6, o_7, o_8, o_9, rfl⟩, hb⟩
      tbr_iter "dd"
      refine de_lcN Sx hN hsc 10 [] ⟨["_law_one"], ["_law_one"], [], ["is_name"], []⟩ (by decide +kernel) (by tbr_iter "mem") (by tbr_iter "mems") (by tbr_iter "pk") (by tbr_iter "nd") (fun _ => rfl) ?_
      refine' lcN_id (fun v => .bl (isName v)) ?u1 ?u2 ?u3 ?u4
      case u1 => tbr_iter "dd"; exact ⟨rfl, rfl⟩
      case u2 => rw [sizeLine_eq]; simp
      case u3 =>
        intro x hx s0 H0 C cl fp Sb
        have h8 : D.sm 8 x = true := D.sms_mem (by tbr_iter "sms") hx
        tbr_iter "dd"
        exact ⟨rfl, rfl⟩
      tbr_iter "dd"
      refine de_lcN Sx hN hsc 10 [] ⟨["_law_one"], ["_law_one"], [], ["is_saying"], []⟩ (by decide +kernel) (by tbr_iter "mem") (by tbr_iter "mems") (by tbr_iter "pk") (by tbr_iter "nd") (fun _ => rfl) ?_
      refine' lcN_id (fun v => .bl (isSay v)) ?v1 ?v2 ?v3 ?v4
      case v1 => tbr_iter "dd"; exact ⟨rfl, rfl⟩
      case v2 => rw [sizeLine_eq]; simp
      case v3 =>
        intro x hx s0 H0 C cl fp Sb
        have h8 : D.sm 8 x = true := D.sms_mem (by tbr_iter "sms") hx
        tbr_iter "dd"
        exact ⟨rfl, rfl⟩
      have e1 : List.map (fun v => D.bl (isName v)) [D.non, D.int 3, D.bl true, D.tup [D.str "a"], D.lst [D.str "a"], D.str "", D.tup [], D.tup [D.str "nobody"], D.tup [D.str "nobody", D.bl true], D.tup [D.str "nobody", D.int 0, D.int 1], D.tup [D.non, D.int 0, D.int 1], D.tup [D.lst [D.str "same"], D.int 0, D.int 1]] = List.replicate 12 (.bl false) := by kernel_rfl
      have e2 : List.map (fun v => D.bl (isSay v)) [D.non, D.int 3, D.bl true, D.tup [D.str "a"], D.lst [D.str "a"], D.str "", D.tup [], D.tup [D.str "nobody"], D.tup [D.str "nobody", D.bl true], D.tup [D.str "nobody", D.int 0, D.int 1], D.tup [D.non, D.int 0, D.int 1], D.tup [D.lst [D.str "same"], D.int 0, D.int 1]] = List.replicate 12 (.bl false) := by kernel_rfl
      rw [e1, e2]
      refine lf_addL (by rw [sizeLine_eq]; simp) ?_
      tbr_iter "dd"
      refine lf_eq' (by decide +kernel) (by decide +kernel) (show _ = true by decide +kernel) ?_
      tbr_iter "dd"
      rw [show isSay (.tup [.str "nobody", .int 23]) = true by kernel_rfl]
      exact q _
end
end T
namespace T
set_option maxHeartbeats 8000000
theorem fin {P : Program} {W : World} {K : PySem.W.Frag} {mg : Str → Option Value} {base : Heap} (hB : ∀ x ∈ allB, mg x = none)(Tis_name : TopFn K mg "is_name" (top 3)) (Tis_number : TopFn K mg "is_number" (top 4)) (T_law_draw : TopFn K mg "_law_draw" (top 8)) (T_law_letters : TopFn K mg "_law_letters" (top 10)) (T_law_bag : TopFn K mg "_law_bag" (top 12)) (T_law_is_number : TopFn K mg "_law_is_number" (top 14)) (Tis_picture : TopFn K mg "is_picture" (top 5)) (T_law_pick : TopFn K mg "_law_pick" (top 9)) (T_law_is_name : TopFn K mg "_law_is_name" (top 15)) (Tis_saying : TopFn K mg "is_saying" (top 6)) (T_law_names : TopFn K mg "_law_names" (top 11)) (T_law_is_saying : TopFn K mg "_law_is_saying" (top 16)) (T_law_some : TopFn K mg "_law_some" (top 17)) (T_law_same : TopFn K mg "_law_same" (top 13))(GLETTERS : Gc mg "LETTERS" (.str abc)) (GMOST_PICTURES : Gc mg "MOST_PICTURES" (.int 24)) {fd : FuncData} (gm : mg "law" = some (.ref (ca mg "law"))) (F : Fun K "law" "law" (top 18) (ca mg "law") fd) : FnOk P W K mg base (L2.CX P W) 10 (ca mg "law") fd ["_law_script"] (spD K mg sp_law) := by
  have Cis_name : FnD P W K mg base 1 "is_name" ["value"] [⟨0, ["value"], [0]⟩] (sp_is_name) := ok_is_name Tis_name hB GLETTERS
  have Cis_number : FnD P W K mg base 1 "is_number" ["value", "low", "high"] [⟨0, ["high", "low", "value"], [2, 1, 0]⟩] (sp_is_number) := ok_is_number Tis_number hB 
  have C_law_draw : FnD P W K mg base 1 "_law_draw" ["_law_bag_here", "_law_many"] [] (sp__law_draw) := ok__law_draw T_law_draw hB 
  have C_law_letters : FnD P W K mg base 1 "_law_letters" [] [] (sp__law_letters) := ok__law_letters T_law_letters hB 
  have C_law_bag : FnD P W K mg base 1 "_law_bag" ["_law_script"] [] (sp__law_bag) := ok__law_bag T_law_bag hB 
  have C_law_is_number : FnD P W K mg base 1 "_law_is_number" ["_law_my_value", "_law_my_low", "_law_my_high"] [] (sp__law_is_number) := ok__law_is_number T_law_is_number hB 
  have Cis_picture : FnD P W K mg base 2 "is_picture" ["value"] [] (sp_is_picture) := ok_is_picture Tis_picture hB GMOST_PICTURES Cis_number
  have C_law_pick : FnD P W K mg base 2 "_law_pick" ["_law_bag_here", "_law_some_here"] [] (sp__law_pick) := ok__law_pick T_law_pick hB C_law_draw
  have C_law_is_name : FnD P W K mg base 2 "_law_is_name" ["_law_my_value"] [] (sp__law_is_name) := ok__law_is_name T_law_is_name hB C_law_letters
  have Cis_saying : FnD P W K mg base 3 "is_saying" ["value"] [⟨0, ["value"], [0]⟩] (sp_is_saying) := ok_is_saying Tis_saying hB Cis_picture Cis_name
  have C_law_names : FnD P W K mg base 3 "_law_names" ["_law_bag_here", "_law_many"] [] (sp__law_names) := ok__law_names T_law_names hB C_law_draw C_law_pick C_law_letters
  have C_law_is_saying : FnD P W K mg base 3 "_law_is_saying" ["_law_my_value"] [] (sp__law_is_saying) := ok__law_is_saying T_law_is_saying hB C_law_is_number C_law_is_name
  have C_law_some : FnD P W K mg base 4 "_law_some" ["_law_bag_here"] [] (sp__law_some) := ok__law_some T_law_some hB C_law_draw C_law_pick C_law_names
  have C_law_same : FnD P W K mg base 9 "_law_same" ["_law_found", "_law_due"] [] (sp__law_same 8) := ok__law_same T_law_same hB 8
  exact ok_law gm F hB C_law_bag C_law_some C_law_same Cis_saying C_law_is_saying C_law_names C_law_draw C_law_pick Cis_name Cis_number C_law_is_name C_law_is_number
theorem fin_mk {P : Program} {W : World} {K : PySem.W.Frag} {mg : Str → Option Value} {h : Heap} {f0 f1 f2 f3 f4 f5 f6 f7 f8 f9 f10 f11 f12 f13 f14 : Addr} {oc0 oc1 oc2 oc3 oc4 oc5 oc6 oc7 oc8 oc9 oc10 oc11 oc12 oc13 oc14 : Value} {od0 od1 od2 od3 od4 od5 od6 od7 od8 od9 od10 od11 od12 od13 od14 : Option Addr} {an0 an1 an2 an3 an4 an5 an6 an7 an8 an9 an10 an11 an12 an13 an14 : Option Addr} {sl0 sl1 sl2 sl3 sl4 sl5 sl6 sl7 sl8 sl9 sl10 sl11 sl12 sl13 sl14 : Array (Option Value)} {kV0 kV1 kV2 kV3 kV4 kV5 kV6 kV7 kV8 kV9 kV10 kV11 kV12 kV13 kV14 : Value} {dc0 dc1 dc2 dc3 dc4 dc5 dc6 dc7 dc8 dc9 dc10 dc11 dc12 dc13 dc14 : Value} {pm0 pm1 pm2 pm3 pm4 pm5 pm6 pm7 pm8 pm9 pm10 pm11 pm12 pm13 pm14 : Value} {cd0 cd1 cd2 cd3 cd4 cd5 cd6 cd7 cd8 cd9 cd10 cd11 cd12 cd13 cd14 : Value} {ct0 ct1 ct2 ct3 ct4 ct5 ct6 ct7 ct8 ct9 ct10 ct11 ct12 ct13 ct14 : Value} (X : K.In h) (G : h.Ns mainGlobals mg)
    (z0 : PySem.W.nsIn K mainGlobals "isinstance" = some none)
    (z1 : PySem.W.nsIn K mainGlobals "str" = some none)
    (z2 : PySem.W.nsIn K mainGlobals "len" = some none)
    (z3 : PySem.W.nsIn K mainGlobals "all" = some none)
    (z4 : PySem.W.nsIn K mainGlobals "int" = some none)
    (z5 : PySem.W.nsIn K mainGlobals "bool" = some none)
    (z6 : PySem.W.nsIn K mainGlobals "tuple" = some none)
    (z7 : PySem.W.nsIn K mainGlobals "abs" = some none)
    (z8 : PySem.W.nsIn K mainGlobals "range" = some none)
    (z9 : PySem.W.nsIn K mainGlobals "list" = some none)
    (z10 : PySem.W.nsIn K mainGlobals "zip" = some none)
    {tk0 : Tok} (g0 : PySem.W.nsIn K mainGlobals "LETTERS" = some (some (.str "abcdefghijklmnopqrstuvwxyz" tk0)))
    {tk1 : Tok} (g1 : PySem.W.nsIn K mainGlobals "MOST_PICTURES" = some (some (.int 24 tk1)))
    (a0 : PySem.W.nsIn K mainGlobals "is_name" = some (some (.ref f0))) (l0 : K.lookup f0 = some ⟨oc0, od0, .func (PySem.W.fnOf "is_name" "is_name" (defArgs (top 3)) (defBody (top 3)) (defScope (top 3)) .none kV0 dc0 pm0 an0 cd0 ct0), sl0⟩) (c0 : PySem.W.codeIn K cd0 "is_name" = true) (k0 : PySem.W.keepIn K (.ref f0) = true)
    (a1 : PySem.W.nsIn K mainGlobals "is_number" = some (some (.ref f1))) (l1 : K.lookup f1 = some ⟨oc1, od1, .func (PySem.W.fnOf "is_number" "is_number" (defArgs (top 4)) (defBody (top 4)) (defScope (top 4)) .none kV1 dc1 pm1 an1 cd1 ct1), sl1⟩) (c1 : PySem.W.codeIn K cd1 "is_number" = true) (k1 : PySem.W.keepIn K (.ref f1) = true)
    (a2 : PySem.W.nsIn K mainGlobals "_law_draw" = some (some (.ref f2))) (l2 : K.lookup f2 = some ⟨oc2, od2, .func (PySem.W.fnOf "_law_draw" "_law_draw" (defArgs (top 8)) (defBody (top 8)) (defScope (top 8)) .none kV2 dc2 pm2 an2 cd2 ct2), sl2⟩) (c2 : PySem.W.codeIn K cd2 "_law_draw" = true) (k2 : PySem.W.keepIn K (.ref f2) = true)
    (a3 : PySem.W.nsIn K mainGlobals "_law_letters" = some (some (.ref f3))) (l3 : K.lookup f3 = some ⟨oc3, od3, .func (PySem.W.fnOf "_law_letters" "_law_letters" (defArgs (top 10)) (defBody (top 10)) (defScope (top 10)) .none kV3 dc3 pm3 an3 cd3 ct3), sl3⟩) (c3 : PySem.W.codeIn K cd3 "_law_letters" = true) (k3 : PySem.W.keepIn K (.ref f3) = true)
    (a4 : PySem.W.nsIn K mainGlobals "_law_bag" = some (some (.ref f4))) (l4 : K.lookup f4 = some ⟨oc4, od4, .func (PySem.W.fnOf "_law_bag" "_law_bag" (defArgs (top 12)) (defBody (top 12)) (defScope (top 12)) .none kV4 dc4 pm4 an4 cd4 ct4), sl4⟩) (c4 : PySem.W.codeIn K cd4 "_law_bag" = true) (k4 : PySem.W.keepIn K (.ref f4) = true)
    (a5 : PySem.W.nsIn K mainGlobals "_law_is_number" = some (some (.ref f5))) (l5 : K.lookup f5 = some ⟨oc5, od5, .func (PySem.W.fnOf "_law_is_number" "_law_is_number" (defArgs (top 14)) (defBody (top 14)) (defScope (top 14)) .none kV5 dc5 pm5 an5 cd5 ct5), sl5⟩) (c5 : PySem.W.codeIn K cd5 "_law_is_number" = true) (k5 : PySem.W.keepIn K (.ref f5) = true)
    (a6 : PySem.W.nsIn K mainGlobals "is_picture" = some (some (.ref f6))) (l6 : K.lookup f6 = some ⟨oc6, od6, .func (PySem.W.fnOf "is_picture" "is_picture" (defArgs (top 5)) (defBody (top 5)) (defScope (top 5)) .none kV6 dc6 pm6 an6 cd6 ct6), sl6⟩) (c6 : PySem.W.codeIn K cd6 "is_picture" = true) (k6 : PySem.W.keepIn K (.ref f6) = true)
    (a7 : PySem.W.nsIn K mainGlobals "_law_pick" = some (some (.ref f7))) (l7 : K.lookup f7 = some ⟨oc7, od7, .func (PySem.W.fnOf "_law_pick" "_law_pick" (defArgs (top 9)) (defBody (top 9)) (defScope (top 9)) .none kV7 dc7 pm7 an7 cd7 ct7), sl7⟩) (c7 : PySem.W.codeIn K cd7 "_law_pick" = true) (k7 : PySem.W.keepIn K (.ref f7) = true)
    (a8 : PySem.W.nsIn K mainGlobals "_law_is_name" = some (some (.ref f8))) (l8 : K.lookup f8 = some ⟨oc8, od8, .func (PySem.W.fnOf "_law_is_name" "_law_is_name" (defArgs (top 15)) (defBody (top 15)) (defScope (top 15)) .none kV8 dc8 pm8 an8 cd8 ct8), sl8⟩) (c8 : PySem.W.codeIn K cd8 "_law_is_name" = true) (k8 : PySem.W.keepIn K (.ref f8) = true)
    (a9 : PySem.W.nsIn K mainGlobals "is_saying" = some (some (.ref f9))) (l9 : K.lookup f9 = some ⟨oc9, od9, .func (PySem.W.fnOf "is_saying" "is_saying" (defArgs (top 6)) (defBody (top 6)) (defScope (top 6)) .none kV9 dc9 pm9 an9 cd9 ct9), sl9⟩) (c9 : PySem.W.codeIn K cd9 "is_saying" = true) (k9 : PySem.W.keepIn K (.ref f9) = true)
    (a10 : PySem.W.nsIn K mainGlobals "_law_names" = some (some (.ref f10))) (l10 : K.lookup f10 = some ⟨oc10, od10, .func (PySem.W.fnOf "_law_names" "_law_names" (defArgs (top 11)) (defBody (top 11)) (defScope (top 11)) .none kV10 dc10 pm10 an10 cd10 ct10), sl10⟩) (c10 : PySem.W.codeIn K cd10 "_law_names" = true) (k10 : PySem.W.keepIn K (.ref f10) = true)
    (a11 : PySem.W.nsIn K mainGlobals "_law_is_saying" = some (some (.ref f11))) (l11 : K.lookup f11 = some ⟨oc11, od11, .func (PySem.W.fnOf "_law_is_saying" "_law_is_saying" (defArgs (top 16)) (defBody (top 16)) (defScope (top 16)) .none kV11 dc11 pm11 an11 cd11 ct11), sl11⟩) (c11 : PySem.W.codeIn K cd11 "_law_is_saying" = true) (k11 : PySem.W.keepIn K (.ref f11) = true)
    (a12 : PySem.W.nsIn K mainGlobals "_law_some" = some (some (.ref f12))) (l12 : K.lookup f12 = some ⟨oc12, od12, .func (PySem.W.fnOf "_law_some" "_law_some" (defArgs (top 17)) (defBody (top 17)) (defScope (top 17)) .none kV12 dc12 pm12 an12 cd12 ct12), sl12⟩) (c12 : PySem.W.codeIn K cd12 "_law_some" = true) (k12 : PySem.W.keepIn K (.ref f12) = true)
    (a13 : PySem.W.nsIn K mainGlobals "_law_same" = some (some (.ref f13))) (l13 : K.lookup f13 = some ⟨oc13, od13, .func (PySem.W.fnOf "_law_same" "_law_same" (defArgs (top 13)) (defBody (top 13)) (defScope (top 13)) .none kV13 dc13 pm13 an13 cd13 ct13), sl13⟩) (c13 : PySem.W.codeIn K cd13 "_law_same" = true) (k13 : PySem.W.keepIn K (.ref f13) = true)
    (a14 : PySem.W.nsIn K mainGlobals "law" = some (some (.ref f14))) (l14 : K.lookup f14 = some ⟨oc14, od14, .func (PySem.W.fnOf "law" "law" (defArgs (top 18)) (defBody (top 18)) (defScope (top 18)) .none kV14 dc14 pm14 an14 cd14 ct14), sl14⟩) (c14 : PySem.W.codeIn K cd14 "law" = true) (k14 : PySem.W.keepIn K (.ref f14) = true) :
    TopFn K mg "law" (top 18) ∧ ∀ fd, Fun K "law" "law" (top 18) (ca mg "law") fd → mg "law" = some (.ref (ca mg "law")) → ∀ base : Heap, FnOk P W K mg base (L2.CX P W) 10 (ca mg "law") fd ["_law_script"] (spD K mg sp_law) := by
  have hB : ∀ x ∈ allB, mg x = none := bts_cons (PySem.W.mg_none_of X G z0) (bts_cons (PySem.W.mg_none_of X G z1) (bts_cons (PySem.W.mg_none_of X G z2) (bts_cons (PySem.W.mg_none_of X G z3) (bts_cons (PySem.W.mg_none_of X G z4) (bts_cons (PySem.W.mg_none_of X G z5) (bts_cons (PySem.W.mg_none_of X G z6) (bts_cons (PySem.W.mg_none_of X G z7) (bts_cons (PySem.W.mg_none_of X G z8) (bts_cons (PySem.W.mg_none_of X G z9) (bts_cons (PySem.W.mg_none_of X G z10) (bts_nil)))))))))))
  have Tis_name := topFn X G a0 l0 c0 k0
  have Tis_number := topFn X G a1 l1 c1 k1
  have T_law_draw := topFn X G a2 l2 c2 k2
  have T_law_letters := topFn X G a3 l3 c3 k3
  have T_law_bag := topFn X G a4 l4 c4 k4
  have T_law_is_number := topFn X G a5 l5 c5 k5
  have Tis_picture := topFn X G a6 l6 c6 k6
  have T_law_pick := topFn X G a7 l7 c7 k7
  have T_law_is_name := topFn X G a8 l8 c8 k8
  have Tis_saying := topFn X G a9 l9 c9 k9
  have T_law_names := topFn X G a10 l10 c10 k10
  have T_law_is_saying := topFn X G a11 l11 c11 k11
  have T_law_some := topFn X G a12 l12 c12 k12
  have T_law_same := topFn X G a13 l13 c13 k13
  have Tlaw := topFn X G a14 l14 c14 k14
  have GLETTERS : Gc mg "LETTERS" (.str abc) := .str X G g0
  have GMOST_PICTURES : Gc mg "MOST_PICTURES" (.int 24) := .int X G g1
  exact ⟨Tlaw, fun fd F gm base => fin hB Tis_name Tis_number T_law_draw T_law_letters T_law_bag T_law_is_number Tis_picture T_law_pick T_law_is_name Tis_saying T_law_names T_law_is_saying T_law_some T_law_same GLETTERS GMOST_PICTURES gm F⟩
end T
open PySem PySem.W PyProof.Rows
set_option maxRecDepth 100000 in
set_option maxHeartbeats 0 in
theorem PySem.Challenge.cw_labelroam_k01_names_and_sayings_told_holds : PySem.Challenge.rw_labelroam_k01_names_and_sayings_told.Holds := by
  w_on; o_law; k_head; (case hw => w_witness2)
  k_fill
  refine L3.law_walk (l := PySem.Challenge.rw_labelroam_k01_names_and_sayings_told) (k := 10) (x := "_law_script") (st := T.top 18) rfl rfl (fun w h Y => PySem.W.kIn_of Y) rfl ⟨rfl, by decide, by decide⟩ (fun _ _ _ _ _ _ _ => rfl) ?F
  case F =>
    intro w mg h KX G
    refine' T.fin_mk KX G ?hole_z0 ?hole_z1 ?hole_z2 ?hole_z3 ?hole_z4 ?hole_z5 ?hole_z6 ?hole_z7 ?hole_z8 ?hole_z9 ?hole_z10 ?hole_g0 ?hole_g1 ?hole_a0 ?hole_l0 ?hole_c0 ?hole_k0 ?hole_a1 ?hole_l1 ?hole_c1 ?hole_k1 ?hole_a2 ?hole_l2 ?hole_c2 ?hole_k2 ?hole_a3 ?hole_l3 ?hole_c3 ?hole_k3 ?hole_a4 ?hole_l4 ?hole_c4 ?hole_k4 ?hole_a5 ?hole_l5 ?hole_c5 ?hole_k5 ?hole_a6 ?hole_l6 ?hole_c6 ?hole_k6 ?hole_a7 ?hole_l7 ?hole_c7 ?hole_k7 ?hole_a8 ?hole_l8 ?hole_c8 ?hole_k8 ?hole_a9 ?hole_l9 ?hole_c9 ?hole_k9 ?hole_a10 ?hole_l10 ?hole_c10 ?hole_k10 ?hole_a11 ?hole_l11 ?hole_c11 ?hole_k11 ?hole_a12 ?hole_l12 ?hole_c12 ?hole_k12 ?hole_a13 ?hole_l13 ?hole_c13 ?hole_k13 ?hole_a14 ?hole_l14 ?hole_c14 ?hole_k14
    (case hole_z0 => k_is); (case hole_z1 => k_is); (case hole_z2 => k_is); (case hole_z3 => k_is); (case hole_z4 => k_is); (case hole_z5 => k_is); (case hole_z6 => k_is); (case hole_z7 => k_is); (case hole_z8 => k_is); (case hole_z9 => k_is); (case hole_z10 => k_is); (case hole_g0 => k_is); (case hole_g1 => k_is); (case hole_a0 => k_is); (case hole_l0 => k_is); (case hole_c0 => k_is); (case hole_k0 => k_is); (case hole_a1 => k_is); (case hole_l1 => k_is); (case hole_c1 => k_is); (case hole_k1 => k_is); (case hole_a2 => k_is); (case hole_l2 => k_is); (case hole_c2 => k_is); (case hole_k2 => k_is); (case hole_a3 => k_is); (case hole_l3 => k_is); (case hole_c3 => k_is); (case hole_k3 => k_is); (case hole_a4 => k_is); (case hole_l4 => k_is); (case hole_c4 => k_is); (case hole_k4 => k_is); (case hole_a5 => k_is); (case hole_l5 => k_is); (case hole_c5 => k_is); (case hole_k5 => k_is); (case hole_a6 => k_is); (case hole_l6 => k_is); (case hole_c6 => k_is); (case hole_k6 => k_is); (case hole_a7 => k_is); (case hole_l7 => k_is); (case hole_c7 => k_is); (case hole_k7 => k_is); (case hole_a8 => k_is); (case hole_l8 => k_is); (case hole_c8 => k_is); (case hole_k8 => k_is); (case hole_a9 => k_is); (case hole_l9 => k_is); (case hole_c9 => k_is); (case hole_k9 => k_is); (case hole_a10 => k_is); (case hole_l10 => k_is); (case hole_c10 => k_is); (case hole_k10 => k_is); (case hole_a11 => k_is); (case hole_l11 => k_is); (case hole_c11 => k_is); (case hole_k11 => k_is); (case hole_a12 => k_is); (case hole_l12 => k_is); (case hole_c12 => k_is); (case hole_k12 => k_is); (case hole_a13 => k_is); (case hole_l13 => k_is); (case hole_c13 => k_is); (case hole_k13 => k_is); (case hole_a14 => k_is); (case hole_l14 => k_is); (case hole_c14 => k_is); (case hole_k14 => k_is)
#print axioms PySem.Challenge.cw_labelroam_k01_names_and_sayings_told_holds
