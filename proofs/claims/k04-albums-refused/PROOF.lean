import PyProof.Rows.All
import Wide.All
import OpenK.AllK
import Wide.FinOn
import HandS.Base
import HandS.Call
import HandS.List
import HandS.Comp
import HandS.Ends
import HandS.Dict
import HandS.Iter
import HandS.Text
import HandS.Words
import HandS.WordsList
import HandS.Exc
import HandS.TryOnly
import HandS.Star
import HandS.Lambda
import KE.KDflt
import HandS.ExcInit
import HandS.IsInst
import HandS.Zip
import HandS.Deep
import HandS.Flow
import HandS.TupAny
import HandS.Style
import HandS.CallSlots
import HandS.WordsExc
import HandS.Defaults
import KE.KUnpackStar
import HandS.Property
import HandS.MakeKw
import HandS.DictComp
import HandS.SetKeys
import HandS.Small
import HandS.SetBool
import HandS.Strs
import HandS.SortInts
import HandS.More
import KE.SortData
import HandS.SetTxt0
import HandS.SetFor
import HandS.TupLe
import KE.GoesEnum
import KE.KExcSuper
import KE.KSuper
import HandS.HotCalls
import HandS.ExcField
import HandS.EndTab
import KE.KNestM
import KE.DataMinMax
import HandS.RaiseMore
import OpenK.KOps
import HandS.ClsMeth
import PySem.Challenge.RW_labelroam_k04_albums_refused
set_option Elab.async false
set_option linter.all false
set_option maxRecDepth 100000
set_option maxHeartbeats 4000000
-- WordsExc
-- CallSlots
/-! # The data layer: what a body does, told over immutable data D and mutable cells M (over the hand layer's readings) -/
namespace L3
open PySem L2

/-! ### 1. Data -/
/-- a lambda: its qualified name, parameters (nm: their names, each with a default), body, scope, captured cells -/
structure Lam where
  q : Str
  params : Arguments
  nm : List Str
  body : Expr
  scope : Scope
  clo : List (Str × Addr)
def Lam.obj (L : Lam) (doc pm dV ctv : Value) (c' f : Addr) : HO := .ext fun h => h.get? f = some (PySem.W.kdv_obj "<lambda>" L.q L.params (.expr L.body) L.scope L.clo dV doc pm c' ctv)
def tupO (dvs : List Value) (t : Addr) : HO := .ext fun h => h.get? t = some (PySem.W.kdv_tup dvs)
/-- the function object at f is of the lambda L -/
def LamAt (H : Hp) (L : Lam) (f : Addr) : Prop := ∃ (doc pm dV ctv : Value) (c' : Addr) (dvs : List Value), H f = some (L.obj doc pm dV ctv c' f) ∧ H c' = some (LamX.CodeO c' L.q) ∧ dvs.length = L.nm.length ∧
  ((dV = .none ∧ dvs = []) ∨ ∃ t, dV = .ref t ∧ H t = some (tupO dvs t))
/-- a value as a whole: data never changes; ptr: a mutable thing, told by the memory M; scr: the script -/
inductive D where
  | non | bl (b : Bool) | int (i : Int) | str (s : Str) | ty (n : String)
  | tup (ds : List D) | lst (ds : List D)
  | dK (kvs : List (Key × D)) | dT (kvs : List (List Key × D))
  | obj (c : Str) (fs : List (Str × D))
  | ptr (a : Addr)
  | scr (ns : List Int)
  | exc (c : Str) (fs : List (Str × D))
  | fn (L : Lam)
  | clo (L : Lam) (vs : List V) (ds : List D)
  | any

/-- the address of a class (a def) of the module, by its name -/
def ca (mg : Str → Option Value) (c : Str) : Addr := match mg c with
  | some (.ref a) => a
  | _ => 0

def Ex (H H' : Hp) : Prop := ∀ a o, H a = some o → H' a = some o
theorem LamAt.mono {H H' : Hp} {L : Lam} {f : Addr} (x : LamAt H L f) (e : Ex H H') : LamAt H' L f := by
  obtain ⟨doc, pm, dV, ctv, c', dvs, h1, h2, h3, h4⟩ := x
  exact ⟨doc, pm, dV, ctv, c', dvs, e _ _ h1, e _ _ h2, h3, h4.imp id fun ⟨t, h5, h6⟩ => ⟨t, h5, e _ _ h6⟩⟩
theorem Ex.refl (H : Hp) : Ex H H := fun _ _ h => h
theorem Ex.trans {H H1 H2 : Hp} (a : Ex H H1) (b : Ex H1 H2) : Ex H H2 := fun x o h => b x o (a x o h)
theorem Ex.free {H H' : Hp} (e : Ex H H') {p : Addr} (h : H' p = none) : H p = none := by
  cases h1 : H p with
  | none => rfl
  | some o => rw [e p o h1] at h; cases h
theorem Ex.new {H : Hp} {p : Addr} {o : HO} (h : H p = none) : Ex H (upd H p o) := fun a u e => by
  rw [upd_ne (ne_of_none e h)]; exact e
theorem Ex.both {H H' : Hp} (e : Ex H H') (p : Addr) (o : HO) : Ex (upd H p o) (upd H' p o) := fun a u h => by
  by_cases q : a = p
  · subst q; rw [upd_same] at h ⊢; exact h
  · rw [upd_ne q] at h ⊢; exact e a u h
/-- an object that the smaller heap does not know changes -/
theorem Ex.mut {H H' : Hp} {p : Addr} {o : HO} (e : Ex H H') (h : H p = none) : Ex H (upd H' p o) := fun a u ha => by
  rw [upd_ne (ne_of_none ha h)]; exact e a u ha
theorem ex_rd {H H' : Hp} {a : Addr} {u : HO} (e : Ex H H') (h : Rd H a u) : Rd H' a u := by
  rcases h with h | ⟨o, h⟩
  · exact .inl (e a _ h)
  · exact .inr ⟨o, e a _ h⟩
theorem ex_l {K : PySem.W.Frag} {H H' : Hp} {a : Addr} {xs : List V} (e : Ex H H') (h : SqL K H a xs) : SqL K H' a xs := by
  rcases h with h | h
  · exact .inl (ex_rd e h)
  · exact .inr h
theorem ex_t {K : PySem.W.Frag} {H H' : Hp} {a : Addr} {xs : List V} (e : Ex H H') (h : SqT K H a xs) : SqT K H' a xs := by
  rcases h with h | h
  · exact .inl (ex_rd e h)
  · exact .inr h

section
variable (K : PySem.W.Frag) (mg : Str → Option Value)
mutual
/-- v stands for d, over the heap H -/
inductive Rep (H : Hp) : V → D → Prop where
  | non : Rep H .non .non
  | bl {b} : Rep H (.bl b) (.bl b)
  | int {i} : Rep H (.int i) (.int i)
  | str {s} : Rep H (.str s) (.str s)
  | ty {n} : Rep H (.ty n) (.ty n)
  | ptr {a} : Rep H (.ref a) (.ptr a)
  | scr {a ns} : SqL K H a (ns.map V.int) → Rep H (.ref a) (.scr ns)
  | tup {a vs ds} : SqT K H a vs → Reps H vs ds → Rep H (.ref a) (.tup ds)
  | lst {a vs ds} : H a = some (.lst vs) → Reps H vs ds → Rep H (.ref a) (.lst ds)
  | dK {a ws kvs} : H a = some (.dK ws) → RepK H ws kvs → Rep H (.ref a) (.dK kvs)
  | dT {a ws kvs} : H a = some (.dT ws) → RepT H ws kvs → Rep H (.ref a) (.dT kvs)
  | obj {a dx c ws fs} : H a = some (.ins (ca mg c) dx ws) → RepF H ws fs → Rep H (.ref a) (.obj c fs)
  | exc {a dx c ws fs} : H a = some (exo a (ca mg c) (some dx)) → H dx = some (exd dx ws) → RepF H ws fs → Rep H (.ref a) (.exc c fs)
  | fn {a L} : LamAt H L a → Rep H (.ref a) (.fn L)
  | clo {a L vs ds} : LamAt H L a → Reps H vs ds → Rep H (.ref a) (.clo L vs ds)
  | any {v} : Rep H v .any
inductive Reps (H : Hp) : List V → List D → Prop where
  | nil : Reps H [] []
  | cons {v d vs ds} : Rep H v d → Reps H vs ds → Reps H (v :: vs) (d :: ds)
inductive RepF (H : Hp) : List (Str × V) → List (Str × D) → Prop where
  | nil : RepF H [] []
  | cons {f v d vs ds} : Rep H v d → RepF H vs ds → RepF H ((f, v) :: vs) ((f, d) :: ds)
inductive RepK (H : Hp) : List (Key × V) → List (Key × D) → Prop where
  | nil : RepK H [] []
  | cons {f v d vs ds} : Rep H v d → RepK H vs ds → RepK H ((f, v) :: vs) ((f, d) :: ds)
inductive RepT (H : Hp) : List (List Key × V) → List (List Key × D) → Prop where
  | nil : RepT H [] []
  | cons {f v d vs ds} : Rep H v d → RepT H vs ds → RepT H ((f, v) :: vs) ((f, d) :: ds)
end
end

section
variable {K : PySem.W.Frag} {mg : Str → Option Value} {H H' : Hp}
mutual
theorem Rep.mono (e : Ex H H') : ∀ {v : V} {d : D}, Rep K mg H v d → Rep K mg H' v d
  | _, _, .non => .non
  | _, _, .bl => .bl
  | _, _, .int => .int
  | _, _, .str => .str
  | _, _, .ty => .ty
  | _, _, .ptr => .ptr
  | _, _, .scr h => .scr (ex_l e h)
  | _, _, .tup h r => .tup (ex_t e h) (Reps.mono e r)
  | _, _, .lst h r => .lst (e _ _ h) (Reps.mono e r)
  | _, _, .dK h r => .dK (e _ _ h) (RepK.mono e r)
  | _, _, .dT h r => .dT (e _ _ h) (RepT.mono e r)
  | _, _, .obj h r => .obj (e _ _ h) (RepF.mono e r)
  | _, _, .exc h1 h2 r => .exc (e _ _ h1) (e _ _ h2) (RepF.mono e r)
  | _, _, .fn h => .fn (h.mono e)
  | _, _, .clo h r => .clo (h.mono e) (Reps.mono e r)
  | _, _, .any => .any
theorem Reps.mono (e : Ex H H') : ∀ {vs : List V} {ds : List D}, Reps K mg H vs ds → Reps K mg H' vs ds
  | _, _, .nil => .nil
  | _, _, .cons r t => .cons (Rep.mono e r) (Reps.mono e t)
theorem RepF.mono (e : Ex H H') : ∀ {vs : List (Str × V)} {ds : List (Str × D)}, RepF K mg H vs ds → RepF K mg H' vs ds
  | _, _, .nil => .nil
  | _, _, .cons r t => .cons (Rep.mono e r) (RepF.mono e t)
theorem RepK.mono (e : Ex H H') : ∀ {vs : List (Key × V)} {ds : List (Key × D)}, RepK K mg H vs ds → RepK K mg H' vs ds
  | _, _, .nil => .nil
  | _, _, .cons r t => .cons (Rep.mono e r) (RepK.mono e t)
theorem RepT.mono (e : Ex H H') : ∀ {vs : List (List Key × V)} {ds : List (List Key × D)}, RepT K mg H vs ds → RepT K mg H' vs ds
  | _, _, .nil => .nil
  | _, _, .cons r t => .cons (Rep.mono e r) (RepT.mono e t)
end
theorem Reps.length : ∀ {vs : List V} {ds : List D}, Reps K mg H vs ds → vs.length = ds.length
  | _, _, .nil => rfl
  | _, _, .cons _ t => congrArg (· + 1) (Reps.length t)
theorem Reps.get : ∀ {vs : List V} {ds : List D} {i : Nat} {d : D}, Reps K mg H vs ds → ds[i]? = some d → ∃ v, vs[i]? = some v ∧ Rep K mg H v d
  | _, _, _, _, .nil, e => by simp at e
  | _, _, 0, _, .cons r _, e => by simp at e; subst e; exact ⟨_, rfl, r⟩
  | _, _, i + 1, d, .cons _ t, e => by
    obtain ⟨v, h1, h2⟩ := Reps.get (i := i) (d := d) t (by simpa using e)
    exact ⟨v, by simpa using h1, h2⟩
theorem Reps.get' : ∀ {vs : List V} {ds : List D} {i : Nat} {v : V}, Reps K mg H vs ds → vs[i]? = some v → ∃ d, ds[i]? = some d ∧ Rep K mg H v d
  | _, _, _, _, .nil, e => by simp at e
  | _, _, 0, _, .cons r _, e => by simp at e; subst e; exact ⟨_, rfl, r⟩
  | _, _, i + 1, d, .cons _ t, e => by
    obtain ⟨v, h1, h2⟩ := Reps.get' (i := i) (v := d) t (by simpa using e)
    exact ⟨v, by simpa using h1, h2⟩
theorem Reps.append : ∀ {vs ws : List V} {ds es : List D}, Reps K mg H vs ds → Reps K mg H ws es → Reps K mg H (vs ++ ws) (ds ++ es)
  | _, _, _, _, .nil, q => q
  | _, _, _, _, .cons r t, q => .cons r (Reps.append t q)
theorem Reps.set {x : V} {d : D} (r : Rep K mg H x d) : ∀ {vs : List V} {ds : List D} (i : Nat), Reps K mg H vs ds → Reps K mg H (vs.set i x) (ds.set i d)
  | _, _, _, .nil => .nil
  | _, _, 0, .cons _ t => .cons r t
  | _, _, i + 1, .cons q t => .cons q (Reps.set r i t)
theorem Reps.take : ∀ {vs : List V} {ds : List D} (n : Nat), Reps K mg H vs ds → Reps K mg H (vs.take n) (ds.take n)
  | _, _, 0, _ => .nil
  | _, _, _ + 1, .nil => .nil
  | _, _, n + 1, .cons r t => .cons r (Reps.take n t)
theorem Reps.drop : ∀ {vs : List V} {ds : List D} (n : Nat), Reps K mg H vs ds → Reps K mg H (vs.drop n) (ds.drop n)
  | _, _, 0, r => r
  | _, _, _ + 1, .nil => .nil
  | _, _, n + 1, .cons _ t => Reps.drop n t
theorem Reps.dropLast {vs : List V} {ds : List D} (r : Reps K mg H vs ds) : Reps K mg H vs.dropLast ds.dropLast := by
  rw [List.dropLast_eq_take, List.dropLast_eq_take, r.length]; exact r.take _
theorem RepF.lookup : ∀ {vs : List (Str × V)} {ds : List (Str × D)} {f : Str} {d : D}, RepF K mg H vs ds → ds.lookup f = some d → ∃ v, vs.lookup f = some v ∧ Rep K mg H v d
  | _, _, _, _, .nil, e => by simp at e
  | (g, v) :: vs, (_, d) :: ds, f, d', .cons r t, e => by
    rw [List.lookup_cons] at e ⊢
    cases q : f == g with
    | true => rw [q] at e; simp only at e; cases e; exact ⟨v, rfl, r⟩
    | false => rw [q] at e; exact RepF.lookup t e
theorem RepF.lookup_none : ∀ {vs : List (Str × V)} {ds : List (Str × D)} {f : Str}, RepF K mg H vs ds → ds.lookup f = none → vs.lookup f = none
  | _, _, _, .nil, e => rfl
  | (g, v) :: vs, (_, d) :: ds, f, .cons r t, e => by
    rw [List.lookup_cons] at e ⊢
    cases q : f == g with
    | true => rw [q] at e; cases e
    | false => rw [q] at e; exact RepF.lookup_none t e
theorem RepF.length : ∀ {vs : List (Str × V)} {ds : List (Str × D)}, RepF K mg H vs ds → vs.length = ds.length
  | _, _, .nil => rfl
  | _, _, .cons _ t => congrArg (· + 1) (RepF.length t)
end

/-! ### 2. Memory: mutable cells -/
inductive Cell where
  | l (ds : List D) | k (kvs : List (Key × D)) | t (kvs : List (List Key × D)) | o (c : Str) (fs : List (Str × D)) | tb (q : Str)
abbrev Mm := Addr → Option Cell
def Mm.put (M : Mm) (p : Addr) (c : Cell) : Mm := fun a => if a = p then some c else M a
def Mm.del (M : Mm) (p : Addr) : Mm := fun a => if a = p then none else M a
theorem Mm.put_same {M : Mm} {p : Addr} {c : Cell} : M.put p c p = some c := if_pos rfl
theorem Mm.put_ne {M : Mm} {p q : Addr} {c : Cell} (h : q ≠ p) : M.put p c q = M q := if_neg h
theorem Mm.put_put {M : Mm} {p : Addr} {c c' : Cell} : (M.put p c).put p c' = M.put p c' := by
  funext a; unfold Mm.put; by_cases h : a = p <;> simp [h]

section
variable (K : PySem.W.Frag) (mg : Str → Option Value)
def CellOk (Hb H : Hp) (p : Addr) : Cell → Prop
  | .l ds => ∃ vs, H p = some (.lst vs) ∧ Reps K mg Hb vs ds
  | .k kvs => ∃ ws, H p = some (.dK ws) ∧ RepK K mg Hb ws kvs
  | .t kvs => ∃ ws, H p = some (.dT ws) ∧ RepT K mg Hb ws kvs
  | .o c fs => ∃ dx ws, H p = some (.ins (ca mg c) dx ws) ∧ RepF K mg Hb ws fs
  | .tb q => ∃ ps : Array Value, H p = some (.tbl ps) ∧ TriplesOk ps.toList ∧ ∀ (pos : Pos) (cv : Value), codeAmong pos ps.toList = some cv → ∃ c, cv = .ref c ∧ Hb c = some (LamX.CodeO c q)
/-- the heap H holds the data of Hb, the cells of M beside, and, untouched, what F says -/
structure Hs (F Hb H : Hp) (M : Mm) : Prop where
  ex : Ex Hb H
  ce : ∀ p c, M p = some c → Hb p = none ∧ CellOk K mg Hb H p c
  fr : ∀ p o, F p = some o → H p = some o ∧ Hb p = none ∧ M p = none
/-- a name of one's own -/
def okN (x : Str) : Bool := !(x == ("__debug__" : Str)) && !(x == ("__classdict__" : Str)) && !(x == ("__name__" : Str))
/-- what is known of the visible names: the name, its slot, its value (none: nothing known) -/
abbrev Ga := List (Str × Nat × Option D)
structure Slots (N : List Str) (sc : Scope) (Hb : Hp) (σ : St) (Γ : Ga) : Prop where
  len : σ.length = N.length
  nd : (Γ.map (·.2.1)).Nodup
  nm : ∀ e ∈ Γ, N[e.2.1]? = some e.1 ∧ Vis sc e.1 ∧ okN e.1 = true
  get : ∀ e ∈ Γ, ∀ d, e.2.2 = some d → ∃ v, σ[e.2.1]? = some (some v) ∧ Rep K mg Hb v d
inductive Has : Ga → Str → Nat → D → Prop where
  | here {Γ : Ga} {x : Str} {i : Nat} {d : D} : Has ((x, i, some d) :: Γ) x i d
  | there {Γ : Ga} {e : Str × Nat × Option D} {x : Str} {i : Nat} {d : D} : Has Γ x i d → Has (e :: Γ) x i d
inductive Put : Ga → Str → D → Ga → Nat → Prop where
  | here {Γ : Ga} {x : Str} {i : Nat} {o : Option D} {d : D} : Put ((x, i, o) :: Γ) x d ((x, i, some d) :: Γ) i
  | there {Γ Γ' : Ga} {e : Str × Nat × Option D} {x : Str} {i : Nat} {d : D} : Put Γ x d Γ' i → Put (e :: Γ) x d (e :: Γ') i
theorem Has.mem {Γ : Ga} {x : Str} {i : Nat} {d : D} : Has Γ x i d → (x, i, some d) ∈ Γ
  | .here => List.mem_cons_self
  | .there h => List.mem_cons_of_mem _ h.mem
/-- an entry behind a Put: the new one, or an old one at another slot -/
theorem Put.mem {Γ Γ' : Ga} {x : Str} {i : Nat} {d : D} : Put Γ x d Γ' i → (Γ'.map (fun e => (e.1, e.2.1)) = Γ.map (fun e => (e.1, e.2.1))) ∧ (∃ o, (x, i, o) ∈ Γ) ∧ ((Γ.map (·.2.1)).Nodup → ∀ e ∈ Γ', e = (x, i, some d) ∨ (e ∈ Γ ∧ e.2.1 ≠ i))
  | .here => ⟨rfl, ⟨_, List.mem_cons_self⟩, fun nd e he => by
    rcases List.mem_cons.mp he with q | q
    · exact .inl q
    · refine .inr ⟨List.mem_cons_of_mem _ q, fun z => ?_⟩
      rw [List.map_cons, List.nodup_cons] at nd
      exact nd.1 (List.mem_map.mpr ⟨e, q, z⟩)⟩
  | .there (e := e0) h => by
    obtain ⟨h1, ⟨o, h2⟩, h3⟩ := h.mem
    refine ⟨by simp only [List.map_cons, h1], ⟨o, List.mem_cons_of_mem _ h2⟩, fun nd e he => ?_⟩
    rw [List.map_cons, List.nodup_cons] at nd
    rcases List.mem_cons.mp he with q | q
    · subst q
      exact .inr ⟨List.mem_cons_self, fun z => nd.1 (List.mem_map.mpr ⟨_, h2, z.symm⟩)⟩
    · rcases h3 nd.2 e q with z | z
      · exact .inl z
      · exact .inr ⟨List.mem_cons_of_mem _ z.1, z.2⟩
end
section
variable {K : PySem.W.Frag} {mg : Str → Option Value} {F F' Hb Hb' H H' : Hp} {M : Mm} {p : Addr} {c : Cell} {σ : St} {Γ : Ga}
theorem CellOk.there (x : CellOk K mg Hb H p c) : ∃ o, H p = some o := by
  cases c with
  | l ds => obtain ⟨_, h, _⟩ := x; exact ⟨_, h⟩
  | k ds => obtain ⟨_, h, _⟩ := x; exact ⟨_, h⟩
  | t ds => obtain ⟨_, h, _⟩ := x; exact ⟨_, h⟩
  | o c fs => obtain ⟨_, _, h, _⟩ := x; exact ⟨_, h⟩
  | tb q => obtain ⟨_, h, _⟩ := x; exact ⟨_, h⟩
theorem CellOk.mono (x : CellOk K mg Hb H p c) (e : Ex Hb Hb') (h : H' p = H p) : CellOk K mg Hb' H' p c := by
  cases c with
  | l ds => obtain ⟨vs, q, r⟩ := x; exact ⟨vs, h.trans q, r.mono e⟩
  | k ds => obtain ⟨vs, q, r⟩ := x; exact ⟨vs, h.trans q, r.mono e⟩
  | t ds => obtain ⟨vs, q, r⟩ := x; exact ⟨vs, h.trans q, r.mono e⟩
  | o c fs => obtain ⟨dx, vs, q, r⟩ := x; exact ⟨dx, vs, h.trans q, r.mono e⟩
  | tb s => obtain ⟨ps, q, t, r⟩ := x; exact ⟨ps, h.trans q, t, fun pos cv z => (r pos cv z).imp fun c y => ⟨y.1, e _ _ y.2⟩⟩
theorem Hs.there (x : Hs K mg F Hb H M) (h : M p = some c) : ∃ o, H p = some o := (x.ce p c h).2.there
theorem Hs.free (x : Hs K mg F Hb H M) (h : H p = none) : M p = none := by
  cases q : M p with
  | none => rfl
  | some c => obtain ⟨o, e⟩ := x.there q; rw [e] at h; cases h
theorem Hs.freeF (x : Hs K mg F Hb H M) (h : H p = none) : F p = none := by
  cases q : F p with
  | none => rfl
  | some o => rw [(x.fr p o q).1] at h; cases h
/-- less of a frame -/
theorem Hs.less (x : Hs K mg F' Hb H M) (e : Ex F F') : Hs K mg F Hb H M := ⟨x.ex, x.ce, fun p o h => x.fr p o (e p o h)⟩
/-- new data -/
theorem Hs.new (x : Hs K mg F Hb H M) (h : H p = none) (o : HO) : Hs K mg F (upd Hb p o) (upd H p o) M where
  ex := x.ex.both p o
  ce := fun q c e => by
    obtain ⟨o', e'⟩ := x.there e
    have n : q ≠ p := ne_of_none e' h
    exact ⟨by rw [upd_ne n]; exact (x.ce q c e).1, (x.ce q c e).2.mono (Ex.new (x.ex.free h)) (upd_ne n)⟩
  fr := fun q u e => by
    obtain ⟨h1, h2, h3⟩ := x.fr q u e
    have n : q ≠ p := ne_of_none h1 h
    exact ⟨by rw [upd_ne n]; exact h1, by rw [upd_ne n]; exact h2, h3⟩
/-- a new thing that is not told -/
theorem Hs.junk (x : Hs K mg F Hb H M) (h : H p = none) (o : HO) : Hs K mg F Hb (upd H p o) M where
  ex := x.ex.trans (Ex.new h)
  ce := fun q c e => by
    obtain ⟨o', e'⟩ := x.there e
    exact ⟨(x.ce q c e).1, (x.ce q c e).2.mono (Ex.refl _) (upd_ne (ne_of_none e' h))⟩
  fr := fun q u e => by
    obtain ⟨h1, h2, h3⟩ := x.fr q u e
    exact ⟨by rw [upd_ne (ne_of_none h1 h)]; exact h1, h2, h3⟩
/-- a new thing of the frame -/
theorem Hs.frame (x : Hs K mg F Hb H M) (h : H p = none) (o : HO) : Hs K mg (upd F p o) Hb (upd H p o) M where
  ex := x.ex.trans (Ex.new h)
  ce := fun q c e => by
    obtain ⟨o', e'⟩ := x.there e
    exact ⟨(x.ce q c e).1, (x.ce q c e).2.mono (Ex.refl _) (upd_ne (ne_of_none e' h))⟩
  fr := fun q u e => by
    by_cases n : q = p
    · subst n; rw [upd_same] at e ⊢; exact ⟨e, x.ex.free h, x.free h⟩
    · rw [upd_ne n] at e ⊢; exact x.fr q u e
/-- a thing of the frame changes -/
theorem Hs.reframe (x : Hs K mg F Hb H M) {o : HO} (h : F p = some o) (o' : HO) : Hs K mg (upd F p o') Hb (upd H p o') M := by
  obtain ⟨h1, h2, h3⟩ := x.fr p o h
  refine ⟨x.ex.mut h2, fun q c e => ?_, fun q u e => ?_⟩
  · have n : q ≠ p := fun z => by subst z; rw [h3] at e; cases e
    exact ⟨(x.ce q c e).1, (x.ce q c e).2.mono (Ex.refl _) (upd_ne n)⟩
  · by_cases n : q = p
    · subst n; rw [upd_same] at e ⊢; exact ⟨e, h2, h3⟩
    · rw [upd_ne n] at e ⊢; exact x.fr q u e
/-- a new cell -/
theorem Hs.cell (x : Hs K mg F Hb H M) (h : H p = none) {o : HO} (hc : CellOk K mg Hb (upd H p o) p c) : Hs K mg F Hb (upd H p o) (M.put p c) where
  ex := x.ex.trans (Ex.new h)
  ce := fun q c' e => by
    by_cases n : q = p
    · subst n; rw [Mm.put_same] at e; cases e; exact ⟨x.ex.free h, hc⟩
    · rw [Mm.put_ne n] at e
      exact ⟨(x.ce q c' e).1, (x.ce q c' e).2.mono (Ex.refl _) (upd_ne n)⟩
  fr := fun q u e => by
    obtain ⟨h1, h2, h3⟩ := x.fr q u e
    have n : q ≠ p := ne_of_none h1 h
    exact ⟨by rw [upd_ne n]; exact h1, h2, by rw [Mm.put_ne n]; exact h3⟩
/-- a cell changes -/
theorem Hs.write (x : Hs K mg F Hb H M) {c0 : Cell} (h : M p = some c0) {o : HO} (hc : CellOk K mg Hb (upd H p o) p c) : Hs K mg F Hb (upd H p o) (M.put p c) where
  ex := x.ex.mut (x.ce p c0 h).1
  ce := fun q c' e => by
    by_cases n : q = p
    · subst n; rw [Mm.put_same] at e; cases e; exact ⟨(x.ce q c0 h).1, hc⟩
    · rw [Mm.put_ne n] at e
      exact ⟨(x.ce q c' e).1, (x.ce q c' e).2.mono (Ex.refl _) (upd_ne n)⟩
  fr := fun q u e => by
    obtain ⟨h1, h2, h3⟩ := x.fr q u e
    have n : q ≠ p := fun z => by subst z; rw [h] at h3; cases h3
    exact ⟨by rw [upd_ne n]; exact h1, h2, by rw [Mm.put_ne n]; exact h3⟩
/-- a cell becomes data -/
theorem Hs.freeze (x : Hs K mg F Hb H M) (h : M p = some c) {o : HO} (e : H p = some o) : Hs K mg F (upd Hb p o) H (M.del p) ∧ Ex Hb (upd Hb p o) := by
  obtain ⟨n, co⟩ := x.ce p c h
  refine ⟨⟨fun a u q => ?_, fun q c' e' => ?_, fun q u e' => ?_⟩, Ex.new n⟩
  · by_cases z : a = p
    · subst z; rw [upd_same] at q; cases q; exact e
    · rw [upd_ne z] at q; exact x.ex a u q
  · by_cases z : q = p
    · subst z; unfold Mm.del at e'; rw [if_pos rfl] at e'; cases e'
    · unfold Mm.del at e'; rw [if_neg z] at e'
      exact ⟨by rw [upd_ne z]; exact (x.ce q c' e').1, (x.ce q c' e').2.mono (Ex.new n) rfl⟩
  · obtain ⟨h1, h2, h3⟩ := x.fr q u e'
    have z : q ≠ p := fun z => by subst z; rw [h] at h3; cases h3
    refine ⟨h1, by rw [upd_ne z]; exact h2, ?_⟩
    unfold Mm.del; rw [if_neg z]; exact h3
/-- a cell is forgotten -/
theorem Hs.drop (x : Hs K mg F Hb H M) (p : Addr) : Hs K mg F Hb H (M.del p) := by
  refine ⟨x.ex, fun q c' e' => ?_, fun q u e' => ?_⟩
  · by_cases z : q = p
    · subst z; unfold Mm.del at e'; rw [if_pos rfl] at e'; cases e'
    · unfold Mm.del at e'; rw [if_neg z] at e'; exact x.ce q c' e'
  · obtain ⟨h1, h2, h3⟩ := x.fr q u e'
    refine ⟨h1, h2, ?_⟩
    unfold Mm.del; split
    · rfl
    · exact h3
theorem Slots.mono {N : List Str} {sc : Scope} (x : Slots K mg N sc Hb σ Γ) (e : Ex Hb Hb') : Slots K mg N sc Hb' σ Γ := ⟨x.len, x.nd, x.nm, fun a ha d h => by
  obtain ⟨v, h1, h2⟩ := x.get a ha d h
  exact ⟨v, h1, h2.mono e⟩⟩
theorem Slots.put {N : List Str} {sc : Scope} (x : Slots K mg N sc Hb σ Γ) {v : V} {d : D} {y : Str} {Γ' : Ga} {i : Nat} (p : Put Γ y d Γ' i) (r : Rep K mg Hb v d) : Slots K mg N sc Hb (σ.set i (some v)) Γ' := by
  obtain ⟨h1, ⟨o, h2⟩, h3⟩ := p.mem
  have nd : (Γ'.map (·.2.1)) = (Γ.map (·.2.1)) := by
    have := congrArg (List.map Prod.snd) h1
    simpa [List.map_map, Function.comp_def] using this
  have hi : N[i]? = some y := (x.nm _ h2).1
  have il : i < N.length := (List.getElem?_eq_some_iff.mp hi).1
  refine ⟨by rw [List.length_set]; exact x.len, by rw [nd]; exact x.nd, fun e he => ?_, fun e he d' hd => ?_⟩
  · rcases h3 x.nd e he with q | q
    · subst q; exact x.nm (y, i, o) h2
    · exact x.nm _ q.1
  · rcases h3 x.nd e he with q | q
    · subst q
      cases hd
      exact ⟨v, by rw [List.getElem?_set_self (by rw [x.len]; exact il)], r⟩
    · obtain ⟨v', e1, e2⟩ := x.get e q.1 d' hd
      exact ⟨v', by rw [List.getElem?_set_ne (Ne.symm q.2)]; exact e1, e2⟩
/-- less is told of the names -/
theorem Slots.less {N : List Str} {sc : Scope} (x : Slots K mg N sc Hb σ Γ) {Γ' : Ga} (nd : (Γ'.map (·.2.1)).Nodup) (h : ∀ e ∈ Γ', e ∈ Γ ∨ (e.2.2 = none ∧ ∃ o, (e.1, e.2.1, o) ∈ Γ)) : Slots K mg N sc Hb σ Γ' :=
  ⟨x.len, nd, fun e he => by
    rcases h e he with q | ⟨_, o, q⟩
    · exact x.nm e q
    · exact x.nm (e.1, e.2.1, o) q, fun e he d hd => by
    rcases h e he with q | ⟨z, _⟩
    · exact x.get e q d hd
    · rw [z] at hd; cases hd⟩
/-- the names at a def's entry -/
def mkG : Nat → List Str → List D → Ga
  | i, x :: N, d :: ds => (x, i, some d) :: mkG (i + 1) N ds
  | i, x :: N, [] => (x, i, none) :: mkG (i + 1) N []
  | _, [], _ => []
theorem mkG_mem : ∀ {N : List Str} {ds : List D} {i : Nat} {e : Str × Nat × Option D}, e ∈ mkG i N ds → ∃ j, e.2.1 = i + j ∧ N[j]? = some e.1 ∧ e.2.2 = ds[j]?
  | x :: N, d :: ds, i, e, h => by
    rcases List.mem_cons.mp h with q | q
    · subst q; exact ⟨0, rfl, rfl, rfl⟩
    · obtain ⟨j, h1, h2, h3⟩ := mkG_mem q
      exact ⟨j + 1, by omega, by simpa using h2, by simpa using h3⟩
  | x :: N, [], i, e, h => by
    rcases List.mem_cons.mp h with q | q
    · subst q; exact ⟨0, rfl, rfl, rfl⟩
    · obtain ⟨j, h1, h2, h3⟩ := mkG_mem q
      exact ⟨j + 1, by omega, by simpa using h2, by simpa using h3⟩
  | [], _, i, e, h => by simp [mkG] at h
theorem mkG_nd : ∀ {N : List Str} {ds : List D} {i : Nat}, ((mkG i N ds).map (·.2.1)).Nodup
  | x :: N, d :: ds, i => by
    rw [mkG, List.map_cons, List.nodup_cons]
    refine ⟨fun h => ?_, mkG_nd⟩
    obtain ⟨e, h1, h2⟩ := List.mem_map.mp h
    obtain ⟨j, h3, _⟩ := mkG_mem h1
    have h2 : e.2.1 = i := h2
    omega
  | x :: N, [], i => by
    rw [mkG, List.map_cons, List.nodup_cons]
    refine ⟨fun h => ?_, mkG_nd⟩
    obtain ⟨e, h1, h2⟩ := List.mem_map.mp h
    obtain ⟨j, h3, _⟩ := mkG_mem h1
    have h2 : e.2.1 = i := h2
    omega
  | [], _, i => by simp [mkG]
theorem Slots.start {N C : List Str} {sc : Scope} {vs : List V} {ds : List D} (r : Reps K mg Hb vs ds) (hl : ds.length ≤ N.length) (hv : ∀ x ∈ N, Vis sc x ∧ okN x = true) : Slots K mg (N ++ C) sc Hb (L2.start (N ++ C) vs) (mkG 0 N ds) := by
  have el := r.length
  refine ⟨by unfold L2.start; simp [el]; omega, mkG_nd, fun e he => ?_, fun e he d hd => ?_⟩
  · obtain ⟨j, h1, h2, _⟩ := mkG_mem he
    have e1 : e.2.1 = j := by omega
    rw [e1, List.getElem?_append_left (List.getElem?_eq_some_iff.mp h2).1]
    exact ⟨h2, hv _ (List.mem_of_getElem? h2)⟩
  · obtain ⟨j, h1, h2, h3⟩ := mkG_mem he
    have e1 : e.2.1 = j := by omega
    rw [e1]
    rw [hd] at h3
    obtain ⟨v, q1, q2⟩ := r.get h3.symm
    refine ⟨v, ?_, q2⟩
    unfold L2.start
    have l : j < vs.length := (List.getElem?_eq_some_iff.mp q1).1
    rw [List.getElem?_append_left (by simpa using l), List.getElem?_map, q1]; rfl
end

/-! ### 3. The readings that are the runs themselves -/
section
variable (X : Cx)
def semE (e : Expr) : TE := fun σ H Q => ∀ pins s, Inv X pins σ H s → wpAny (model X.prog X.w) X.A (eval e X.env) (EP X pins σ Q) X.xe s
def semT (e : Expr) : TT := fun σ H Q => ∀ pins s, Inv X pins σ H s → wpAny (model X.prog X.w) X.A (isTrue e X.env (eval e X.env)) (TP X pins σ Q) X.xe s
def semW (e : Expr) : TT := fun σ H Q => ∀ whole pins s, Inv X pins σ H s → wpAny (model X.prog X.w) X.A (isTrue e X.env whole) (TP X pins σ Q) X.xe s
def semA (es : List Expr) : TA := fun σ H Q => ∀ pos pins s, Inv X pins σ H s → wpAny (model X.prog X.w) X.A (spliced (backTo pos (starEach es X.env))) (AP X pins σ Q) X.xe s
def semS (st : Stmt) : TS := fun D σ H => ∀ pins s, Inv X pins σ H s → wpAny (model X.prog X.w) X.A (exec st X.env) (SP X pins D) X.xe s
def semB (sts : List Stmt) : TS := fun D σ H => ∀ pins s, Inv X pins σ H s → wpAny (model X.prog X.w) X.A (execs sts X.env) (SP X pins D) X.xe s
def semG (tg : Expr) : TG := fun v σ H Q => ∀ pins s u, Inv X pins σ H s → RelV v u → wpAny (model X.prog X.w) X.A (assign tg X.env u) (fun _ s' => ∃ σ' H', Inv X pins σ' H' s' ∧ Q σ' H') X.xe s
end
section
variable {X : Cx} {e : Expr} {es : List Expr} {st : Stmt} {sts : List Stmt} {σ : St} {H : Hp}
theorem semE_ok : PE X e (semE X e) := ⟨fun pins s σ H Q I h => h pins s I⟩
theorem semT_ok : PT X e (semT X e) := ⟨fun pins s σ H Q I h => h pins s I⟩
theorem semW_ok : PW X e (semW X e) := ⟨fun wh pins s σ H Q I h => h wh pins s I⟩
theorem semA_ok : PA X es (semA X es) := ⟨fun pos pins s σ H Q I h => h pos pins s I⟩
theorem semS_ok : PS X st (semS X st) := ⟨fun pins s σ H D I h => h pins s I⟩
theorem semB_ok : PSs X sts (semB X sts) := ⟨fun pins s σ H D I h => h pins s I⟩
theorem semG_ok : PG X e (semG X e) := ⟨fun pins s σ H v u Q I r h => h pins s u I r⟩
theorem semE_of {t : TE} {Q : VK} (h : PE X e t) (q : t σ H Q) : semE X e σ H Q := fun pins s I => h.run pins s σ H Q I q
theorem semT_of {t : TT} {Q : Bool → Hp → Prop} (h : PT X e t) (q : t σ H Q) : semT X e σ H Q := fun pins s I => h.run pins s σ H Q I q
theorem semW_of {t : TT} {Q : Bool → Hp → Prop} (h : PW X e t) (q : t σ H Q) : semW X e σ H Q := fun wh pins s I => h.run wh pins s σ H Q I q
theorem semA_of {t : TA} {Q : List V → Hp → Prop} (h : PA X es t) (q : t σ H Q) : semA X es σ H Q := fun pos pins s I => h.run pos pins s σ H Q I q
theorem semB_of {t : TS} {D : Ends} (h : PSs X sts t) (q : t D σ H) : semB X sts D σ H := fun pins s I => h.run pins s σ H D I q
theorem semS_of {t : TS} {D : Ends} (h : PS X st t) (q : t D σ H) : semS X st D σ H := fun pins s I => h.run pins s σ H D I q
theorem semG_of {t : TG} {v : V} {Q : St → Hp → Prop} (h : PG X e t) (q : t v σ H Q) : semG X e v σ H Q := fun pins s u I r => h.run pins s σ H v u Q I r q
theorem semE_mono {Q Q' : VK} (h : semE X e σ H Q) (hq : ∀ v H', Q v H' → Q' v H') : semE X e σ H Q' := fun pins s I =>
  thn (h pins s I) fun _ _ ⟨v, H', I', r, q⟩ => ⟨v, H', I', r, hq v H' q⟩
theorem semT_mono {Q Q' : Bool → Hp → Prop} (h : semT X e σ H Q) (hq : ∀ v H', Q v H' → Q' v H') : semT X e σ H Q' := fun pins s I =>
  thn (h pins s I) fun _ _ ⟨H', I', q⟩ => ⟨H', I', hq _ H' q⟩
theorem semW_mono {Q Q' : Bool → Hp → Prop} (h : semW X e σ H Q) (hq : ∀ v H', Q v H' → Q' v H') : semW X e σ H Q' := fun wh pins s I =>
  thn (h wh pins s I) fun _ _ ⟨H', I', q⟩ => ⟨H', I', hq _ H' q⟩
theorem semA_mono {Q Q' : List V → Hp → Prop} (h : semA X es σ H Q) (hq : ∀ v H', Q v H' → Q' v H') : semA X es σ H Q' := fun pos pins s I =>
  thn (h pos pins s I) fun _ _ ⟨v, H', I', r, q⟩ => ⟨v, H', I', r, hq v H' q⟩
theorem semG_mono {v : V} {Q Q' : St → Hp → Prop} (h : semG X e v σ H Q) (hq : ∀ v H', Q v H' → Q' v H') : semG X e v σ H Q' := fun pins s u I r =>
  thn (h pins s u I r) fun _ _ ⟨σ', H', I', q⟩ => ⟨σ', H', I', hq σ' H' q⟩
theorem SP.mono {pins : List (Addr × Obj)} {D D' : Ends} {f : Flow} {s' : Shared} (h : SP X pins D f s') (h1 : ∀ σ H, D.nx σ H → D'.nx σ H) (h2 : ∀ v H, D.rt v H → D'.rt v H) (h3 : ∀ σ H, D.bk σ H → D'.bk σ H) (h4 : ∀ σ H, D.ct σ H → D'.ct σ H) : SP X pins D' f s' := by
  cases f with
  | next => obtain ⟨σ', H', I, q⟩ := h; exact ⟨σ', H', I, h1 _ _ q⟩
  | brk => obtain ⟨σ', H', I, q⟩ := h; exact ⟨σ', H', I, h3 _ _ q⟩
  | cont => obtain ⟨σ', H', I, q⟩ := h; exact ⟨σ', H', I, h4 _ _ q⟩
  | ret u => obtain ⟨v, σ', H', I, r, q⟩ := h; exact ⟨v, σ', H', I, r, h2 _ _ q⟩
theorem semB_mono {D D' : Ends} (h : semB X sts D σ H) (h1 : ∀ σ H, D.nx σ H → D'.nx σ H) (h2 : ∀ v H, D.rt v H → D'.rt v H) (h3 : ∀ σ H, D.bk σ H → D'.bk σ H) (h4 : ∀ σ H, D.ct σ H → D'.ct σ H) : semB X sts D' σ H := fun pins s I =>
  thn (h pins s I) fun _ _ q => SP.mono q h1 h2 h3 h4
end

/-! ### 4. The judgements over data -/
/-- what is wanted of an exception: the slots, its class's name, its fields, the memory -/
abbrev DX := Ga → Str → List (Str × D) → Mm → Prop
/-- where a body begins (its data, its frame), and its wish about exceptions -/
structure Wi where
  h0 : Hp
  f0 : Hp
  ed : DX
section
variable (X : Cx) (w : Wi)
def LiftX : WX := fun cls d σ H' => ∃ (c : Str) (fs : List (Str × D)) (dd : Addr) (ws : List (Str × V)) (F' Hb' : Hp) (Γ' : Ga) (M' : Mm), cls = .ref (ca X.mg c) ∧ d = some dd ∧ H' dd = some (.xd ws) ∧ RepF X.K X.mg Hb' ws fs ∧ Ex w.h0 Hb' ∧ Ex w.f0 F' ∧
  Hs X.K X.mg F' Hb' H' M' ∧ Slots X.K X.mg X.N X.env.scope Hb' σ Γ' ∧ w.ed Γ' c fs M'
def WOk : Prop := Takes X (LiftX X w)
/-- the state: the heap, the slots -/
structure At (F Hb H : Hp) (σ : St) (Γ : Ga) (M : Mm) : Prop where
  wok : WOk X w
  h0 : Ex w.h0 Hb
  f0 : Ex w.f0 F
  hs : Hs X.K X.mg F Hb H M
  sl : Slots X.K X.mg X.N X.env.scope Hb σ Γ
def PostE (F Hb : Hp) (σ : St) (Γ : Ga) (Q : D → Mm → Prop) : VK := fun v H' => ∃ Hb' d M', Ex Hb Hb' ∧ At X w F Hb' H' σ Γ M' ∧ Rep X.K X.mg Hb' v d ∧ Q d M'
def PostT (F Hb : Hp) (σ : St) (Γ : Ga) (Q : Bool → Mm → Prop) : Bool → Hp → Prop := fun b H' => ∃ Hb' M', Ex Hb Hb' ∧ At X w F Hb' H' σ Γ M' ∧ Q b M'
def PostA (F Hb : Hp) (σ : St) (Γ : Ga) (Q : List D → Mm → Prop) : List V → Hp → Prop := fun vs H' => ∃ Hb' ds M', Ex Hb Hb' ∧ At X w F Hb' H' σ Γ M' ∧ Reps X.K X.mg Hb' vs ds ∧ Q ds M'
/-- where a block may end -/
structure Po where
  nx : Ga → Mm → Prop
  rt : D → Mm → Prop
  bk : Ga → Mm → Prop := fun _ _ => False
  ct : Ga → Mm → Prop := fun _ _ => False
def PostN (F Hb : Hp) (Q : Ga → Mm → Prop) : St → Hp → Prop := fun σ' H' => ∃ Hb' Γ' M', Ex Hb Hb' ∧ At X w F Hb' H' σ' Γ' M' ∧ Q Γ' M'
def PostR (F Hb : Hp) (Q : D → Mm → Prop) : VK := fun v H' => ∃ Hb' d M', Ex Hb Hb' ∧ Hs X.K X.mg F Hb' H' M' ∧ Rep X.K X.mg Hb' v d ∧ Q d M'
def EndsOf (F Hb : Hp) (P : Po) : Ends := { nx := PostN X w F Hb P.nx, rt := PostR X F Hb P.rt, bk := PostN X w F Hb P.bk, ct := PostN X w F Hb P.ct }
structure DE (e : Expr) (Γ : Ga) (M : Mm) (Q : D → Mm → Prop) : Prop where
  run : ∀ F σ H Hb, At X w F Hb H σ Γ M → semE X e σ H (PostE X w F Hb σ Γ Q)
structure DT (e : Expr) (Γ : Ga) (M : Mm) (Q : Bool → Mm → Prop) : Prop where
  run : ∀ F σ H Hb, At X w F Hb H σ Γ M → semT X e σ H (PostT X w F Hb σ Γ Q)
structure DW (e : Expr) (Γ : Ga) (M : Mm) (Q : Bool → Mm → Prop) : Prop where
  run : ∀ F σ H Hb, At X w F Hb H σ Γ M → semW X e σ H (PostT X w F Hb σ Γ Q)
structure DA (es : List Expr) (Γ : Ga) (M : Mm) (Q : List D → Mm → Prop) : Prop where
  run : ∀ F σ H Hb, At X w F Hb H σ Γ M → semA X es σ H (PostA X w F Hb σ Γ Q)
structure DS (sts : List Stmt) (Γ : Ga) (M : Mm) (P : Po) : Prop where
  run : ∀ F σ H Hb, At X w F Hb H σ Γ M → semB X sts (EndsOf X w F Hb P) σ H
/-- a target takes a value -/
structure DG (tg : Expr) (d : D) (Γ : Ga) (M : Mm) (Q : Ga → Mm → Prop) : Prop where
  run : ∀ F σ H Hb v, At X w F Hb H σ Γ M → Rep X.K X.mg Hb v d → semG X tg v σ H (PostN X w F Hb Q)
end
section
variable {X : Cx} {w : Wi} {F H0 Hb Hb' H H' : Hp} {σ : St} {Γ : Ga} {M : Mm} {p : Addr}
theorem At.slotsTo (x : At X w F Hb H σ Γ M) {σ' : St} {Γ' : Ga} (sl : Slots X.K X.mg X.N X.env.scope Hb σ' Γ') : At X w F Hb H σ' Γ' M := ⟨x.wok, x.h0, x.f0, x.hs, sl⟩
theorem At.new (x : At X w F Hb H σ Γ M) (h : H p = none) (o : HO) : Ex Hb (upd Hb p o) ∧ At X w F (upd Hb p o) (upd H p o) σ Γ M :=
  have e := Ex.new (o := o) (x.hs.ex.free h)
  ⟨e, x.wok, x.h0.trans e, x.f0, x.hs.new h o, x.sl.mono e⟩
theorem At.junk (x : At X w F Hb H σ Γ M) (h : H p = none) (o : HO) : At X w F Hb (upd H p o) σ Γ M := ⟨x.wok, x.h0, x.f0, x.hs.junk h o, x.sl⟩
theorem At.put (x : At X w F Hb H σ Γ M) {v : V} {d : D} {y : Str} {Γ' : Ga} {i : Nat} (p : Put Γ y d Γ' i) (r : Rep X.K X.mg Hb v d) : At X w F Hb H (σ.set i (some v)) Γ' M := x.slotsTo (x.sl.put p r)
theorem At.cell (x : At X w F Hb H σ Γ M) (h : H p = none) {o : HO} {c : Cell} (hc : CellOk X.K X.mg Hb (upd H p o) p c) : At X w F Hb (upd H p o) σ Γ (M.put p c) := ⟨x.wok, x.h0, x.f0, x.hs.cell h hc, x.sl⟩
theorem At.write (x : At X w F Hb H σ Γ M) {c0 : Cell} (h : M p = some c0) {o : HO} {c : Cell} (hc : CellOk X.K X.mg Hb (upd H p o) p c) : At X w F Hb (upd H p o) σ Γ (M.put p c) := ⟨x.wok, x.h0, x.f0, x.hs.write h hc, x.sl⟩
/-- a value, the state as it is -/
theorem At.val (x : At X w F Hb H σ Γ M) (e : Ex H0 Hb) {v : V} {d : D} {Q : D → Mm → Prop} (r : Rep X.K X.mg Hb v d) (q : Q d M) : PostE X w F H0 σ Γ Q v H := ⟨Hb, d, M, e, x, r, q⟩
/-- a new list, a new tuple -/
theorem At.lst (x : At X w F Hb H σ Γ M) (e0 : Ex H0 Hb) {vs : List V} {ds : List D} {Q : D → Mm → Prop} (r : Reps X.K X.mg Hb vs ds) (h : H p = none) (q : Q (.lst ds) M) : PostE X w F H0 σ Γ Q (.ref p) (upd H p (.lst vs)) := by
  obtain ⟨e, a⟩ := x.new h (.lst vs)
  exact ⟨_, _, M, e0.trans e, a, .lst upd_same (r.mono e), q⟩
theorem At.tup (x : At X w F Hb H σ Γ M) (e0 : Ex H0 Hb) {vs : List V} {ds : List D} {Q : D → Mm → Prop} (r : Reps X.K X.mg Hb vs ds) (h : H p = none) (q : Q (.tup ds) M) : PostE X w F H0 σ Γ Q (.ref p) (upd H p (.tup vs)) := by
  obtain ⟨e, a⟩ := x.new h (.tup vs)
  exact ⟨_, _, M, e0.trans e, a, .tup (SqT.of upd_same) (r.mono e), q⟩
theorem PostE.imp {Q Q' : D → Mm → Prop} {v : V} (h : PostE X w F Hb σ Γ Q v H) (q : ∀ d M, Q d M → Q' d M) : PostE X w F Hb σ Γ Q' v H := by
  obtain ⟨a, d, M', b, c, r, z⟩ := h; exact ⟨a, d, M', b, c, r, q _ _ z⟩
theorem PostN.back {Q : Ga → Mm → Prop} (e : Ex H0 Hb) (h : PostN X w F Hb Q σ H) : PostN X w F H0 Q σ H := by
  obtain ⟨a, b, c, d, r⟩ := h; exact ⟨a, b, c, e.trans d, r⟩
theorem PostR.back {Q : D → Mm → Prop} {v : V} (e : Ex H0 Hb) (h : PostR X F Hb Q v H) : PostR X F H0 Q v H := by
  obtain ⟨a, b, c, d, r⟩ := h; exact ⟨a, b, c, e.trans d, r⟩
theorem semB_back {sts : List Stmt} {P : Po} (e : Ex H0 Hb) (h : semB X sts (EndsOf X w F Hb P) σ H) : semB X sts (EndsOf X w F H0 P) σ H :=
  semB_mono h (fun _ _ q => PostN.back e q) (fun _ _ q => PostR.back e q) (fun _ _ q => PostN.back e q) (fun _ _ q => PostN.back e q)
end
end L3
namespace L3
open PySem PySem.Spec PyProof.Rows L2
abbrev St := L2.St

/-! ### 5. What a context gives -/
/-- the names of a body: those that may be stored, the plain locals, the cells, the globals, the built-ins that the module leaves as they are -/
structure Nm where
  locs : List Str
  lcl : List Str
  cel : List Str
  glb : List Str
  bts : List Str
structure Sc (X : Cx) (k : Nat) (n : Nm) : Prop where
  nd : X.N.Nodup
  calm : X.calm = true
  po : PassesOwn (model X.prog X.w) X.A X.env X.xe
  room : Room k X.A
  kd : X.env.scope.kind = .function
  loc : ∀ x ∈ n.locs, Loc X.env.scope x ∧ (X.fn x = true ∨ X.env.scope.names.lookup x = some .local)
  lcl : ∀ x ∈ n.lcl, X.env.scope.names.lookup x = some .local
  cel : ∀ x ∈ n.cel, X.env.scope.names.lookup x = some .cell
  gl : ∀ x ∈ n.glb, Gl X x ∧ okN x = true
  bt : ∀ x ∈ n.bts, X.mg x = none
theorem okN_d {x : Str} (h : okN x = true) : (x == ("__debug__" : Str)) = false := by
  unfold okN at h; simp only [Bool.and_eq_true, Bool.not_eq_true'] at h; exact h.1.1
theorem okN_c {x : Str} (h : okN x = true) : (x == ("__classdict__" : Str)) = false := by
  unfold okN at h; simp only [Bool.and_eq_true, Bool.not_eq_true'] at h; exact h.1.2
theorem okN_n {x : Str} (h : okN x = true) : x ≠ "__name__" := by
  unfold okN at h; simp only [Bool.and_eq_true, Bool.not_eq_true'] at h
  intro e; subst e; simp at h

section
variable {X : Cx} {w : Wi} {Γ Γ' : Ga} {M : Mm} {Q : D → Mm → Prop} {QT : Bool → Mm → Prop} {x : Str} {i : Nat} {d : D} {a b c e : Expr} {es rest' : List Expr} {pos : Pos} {k : Nat} {n : Nm} {P : Po}

/-! ### 6. Names and constants -/
theorem de_name (h : Has Γ x i d) (q : Q d M) : DE X w (.Name x pos) Γ M Q := .mk fun F σ H Hb A => by
  obtain ⟨h1, h2, h3⟩ := A.sl.nm _ h.mem
  obtain ⟨v, e1, e2⟩ := A.sl.get _ h.mem d rfl
  exact semE_of (pe_var h1 h2 (okN_d h3) (okN_c h3)) ⟨v, e1, A.val (Ex.refl _) e2 q⟩
/-- the data of a cell -/
def Cell.data : Cell → D
  | .l ds => .lst ds
  | .k kvs => .dK kvs
  | .t kvs => .dT kvs
  | .o c fs => .obj c fs
  | .tb _ => .any
theorem CellOk.rep {K : PySem.W.Frag} {mg : Str → Option Value} {Hb H : Hp} {p : Addr} {c : Cell} (h : CellOk K mg Hb H p c) : ∃ o, H p = some o ∧ ∀ Hb', Ex Hb Hb' → Hb' p = some o → Rep K mg Hb' (.ref p) c.data := by
  cases c with
  | l ds => obtain ⟨vs, h1, h2⟩ := h; exact ⟨_, h1, fun Hb' e z => .lst z (h2.mono e)⟩
  | k ds => obtain ⟨vs, h1, h2⟩ := h; exact ⟨_, h1, fun Hb' e z => .dK z (h2.mono e)⟩
  | t ds => obtain ⟨vs, h1, h2⟩ := h; exact ⟨_, h1, fun Hb' e z => .dT z (h2.mono e)⟩
  | o c fs => obtain ⟨dx, vs, h1, h2⟩ := h; exact ⟨_, h1, fun Hb' e z => .obj z (h2.mono e)⟩
  | tb q => obtain ⟨ps, h1, h2⟩ := h; exact ⟨_, h1, fun Hb' e z => .any⟩
/-- a mutable thing is data from here on -/
theorem At.freeze {F Hb H H0 : Hp} {σ : St} {p : Addr} {c : Cell} (A : At X w F Hb H σ Γ M) (e0 : Ex H0 Hb) (h : M p = some c) (q : Q c.data (M.del p)) : PostE X w F H0 σ Γ Q (.ref p) H := by
  obtain ⟨o, e1, r⟩ := (A.hs.ce p c h).2.rep
  obtain ⟨hs, ex⟩ := A.hs.freeze h e1
  exact ⟨_, _, _, e0.trans ex, ⟨A.wok, A.h0.trans ex, A.f0, hs, A.sl.mono ex⟩, r _ ex upd_same, q⟩
theorem rep_ptr {K : PySem.W.Frag} {mg : Str → Option Value} {Hb : Hp} {v : V} {p : Addr} (r : Rep K mg Hb v (.ptr p)) : v = .ref p := by cases r; rfl
theorem de_freeze (h : DE X w e Γ M fun d M1 => ∃ p cl, d = .ptr p ∧ M1 p = some cl ∧ Q cl.data (M1.del p)) : DE X w e Γ M Q := .mk fun F σ H Hb A =>
  semE_mono (h.run F σ H Hb A) fun v H1 ⟨Hb1, d1, M1, e1, A1, r1, p, cl, h1, h2, h3⟩ => by
    subst h1; rw [rep_ptr r1]; exact A1.freeze e1 h2 h3
theorem de_int {i : Int} {j} (q : Q (.int i) M) : DE X w (.Constant (.int i) j pos) Γ M Q := .mk fun F σ H Hb A => semE_of pe_int (A.val (Ex.refl _) .int q)
theorem de_bl {i : Bool} {j} (q : Q (.bl i) M) : DE X w (.Constant (.bool i) j pos) Γ M Q := .mk fun F σ H Hb A => semE_of pe_bl (A.val (Ex.refl _) .bl q)
theorem de_non {j} (q : Q .non M) : DE X w (.Constant .none j pos) Γ M Q := .mk fun F σ H Hb A => semE_of pe_non (A.val (Ex.refl _) .non q)
theorem de_str {s : Str} {j} (q : Q (.str s) M) : DE X w (.Constant (.str s) j pos) Γ M Q := .mk fun F σ H Hb A => semE_of pe_str (A.val (Ex.refl _) .str q)
theorem de_imp {Q' : D → Mm → Prop} (h : DE X w e Γ M Q) (q : ∀ d M, Q d M → Q' d M) : DE X w e Γ M Q' := .mk fun F σ H Hb A => semE_mono (h.run F σ H Hb A) fun _ _ z => z.imp q
theorem dt_imp {Q' : Bool → Mm → Prop} (h : DT X w e Γ M QT) (q : ∀ d M, QT d M → Q' d M) : DT X w e Γ M Q' := .mk fun F σ H Hb A => semT_mono (h.run F σ H Hb A) fun _ _ ⟨a, b, c, d, z⟩ => ⟨a, b, c, d, q _ _ z⟩
theorem dw_imp {Q' : Bool → Mm → Prop} (h : DW X w e Γ M QT) (q : ∀ d M, QT d M → Q' d M) : DW X w e Γ M Q' := .mk fun F σ H Hb A => semW_mono (h.run F σ H Hb A) fun _ _ ⟨a, b, c, d, z⟩ => ⟨a, b, c, d, q _ _ z⟩

/-! ### 7. Operators by values -/
abbrev PP2 := D → D → Mm → (D → Mm → Prop) → Prop
abbrev PP1 := D → Mm → (D → Mm → Prop) → Prop
abbrev PPL := List D → Mm → (D → Mm → Prop) → Prop
abbrev PPM := D → List D → Mm → (D → Mm → Prop) → Prop
end
section
variable (X : Cx)
def semO (f : Value → Value → Sem Value) : R2 := fun x y H Q => ∀ pins s σ v u, Inv X pins σ H s → RelV x v → RelV y u → wpAny (model X.prog X.w) X.A (f v u) (EP X pins σ Q) X.xe s
def semU (f : Value → Sem Value) : V → Hp → VK → Prop := fun x H Q => ∀ pins s σ v, Inv X pins σ H s → RelV x v → wpAny (model X.prog X.w) X.A (f v) (EP X pins σ Q) X.xe s
def semC (f : Value) : List V → Hp → VK → Prop := fun xs H Q => ∀ pins s σ us, Inv X pins σ H s → Vals xs us → wpAny (model X.prog X.w) X.A (call f us) (EP X pins σ Q) X.xe s
def semM (id : String) : V → List V → Hp → VK → Prop := fun x xs H Q => ∀ pins s σ v us, Inv X pins σ H s → RelV x v → Vals xs us → wpAny (model X.prog X.w) X.A (call (.builtin id) (v :: us)) (EP X pins σ Q) X.xe s
def semI : R2 := fun x y H Q => ∀ (value slice : Expr) pins s σ v u, Inv X pins σ H s → RelV x v → RelV y u → subscripted slice false v u = operate [v, u] (getItem v u) → wpAny (model X.prog X.w) X.A (subscriptTail value slice v u) (EP X pins σ Q) X.xe s
/-- an operation over data -/
def OD (f : Value → Value → Sem Value) (pp : PP2) : Prop := ∀ (w : Wi) (F H0 Hb H : Hp) (σ : St) (Γ : Ga) (M : Mm) (v u : V) (x y : D) (Q : D → Mm → Prop), At X w F Hb H σ Γ M → Ex H0 Hb → Rep X.K X.mg Hb v x → Rep X.K X.mg Hb u y → pp x y M Q → semO X f v u H (PostE X w F H0 σ Γ Q)
def UD (f : Value → Sem Value) (pp : PP1) : Prop := ∀ (w : Wi) (F H0 Hb H : Hp) (σ : St) (Γ : Ga) (M : Mm) (v : V) (x : D) (Q : D → Mm → Prop), At X w F Hb H σ Γ M → Ex H0 Hb → Rep X.K X.mg Hb v x → pp x M Q → semU X f v H (PostE X w F H0 σ Γ Q)
def CD (f : Value) (pp : PPL) : Prop := ∀ (w : Wi) (F H0 Hb H : Hp) (σ : St) (Γ : Ga) (M : Mm) (vs : List V) (xs : List D) (Q : D → Mm → Prop), At X w F Hb H σ Γ M → Ex H0 Hb → Reps X.K X.mg Hb vs xs → pp xs M Q → semC X f vs H (PostE X w F H0 σ Γ Q)
def MD (T id : String) (pp : PPM) : Prop := ∀ (w : Wi) (F H0 Hb H : Hp) (σ : St) (Γ : Ga) (M : Mm) (v : V) (vs : List V) (x : D) (xs : List D) (Q : D → Mm → Prop), At X w F Hb H σ Γ M → Ex H0 Hb → Rep X.K X.mg Hb v x → Reps X.K X.mg Hb vs xs → pp x xs M Q → semM X id v vs H (PostE X w F H0 σ Γ Q)
def XD (pp : PP2) : Prop := ∀ (w : Wi) (F H0 Hb H : Hp) (σ : St) (Γ : Ga) (M : Mm) (v u : V) (x y : D) (Q : D → Mm → Prop), At X w F Hb H σ Γ M → Ex H0 Hb → Rep X.K X.mg Hb v x → Rep X.K X.mg Hb u y → pp x y M Q → semI X v u H (PostE X w F H0 σ Γ Q)
end
section
variable {X : Cx} {w : Wi} {Γ Γ' : Ga} {M : Mm} {Q : D → Mm → Prop} {QT : Bool → Mm → Prop} {x : Str} {i : Nat} {d : D} {a b c e : Expr} {es rest' : List Expr} {pos : Pos} {k : Nat} {n : Nm} {P : Po}
theorem semO_ok {f} : OpR X f (semO X f) := fun pins s σ H x y v u Q I rx ry h => h pins s σ v u I rx ry
theorem semO_of {f} {r : R2} (ho : OpR X f r) {x y : V} {H : Hp} {Q : VK} (q : r x y H Q) : semO X f x y H Q := fun pins s σ v u I rx ry => ho pins s σ H x y v u Q I rx ry q
theorem semO_mono {f} {x y : V} {H : Hp} {Q Q' : VK} (h : semO X f x y H Q) (hq : ∀ v H', Q v H' → Q' v H') : semO X f x y H Q' := fun pins s σ v u I rx ry => thn (h pins s σ v u I rx ry) fun _ _ ⟨v, H', I', r, q⟩ => ⟨v, H', I', r, hq v H' q⟩
theorem semU_ok {f} : UnR X f (semU X f) := fun pins s σ H x v Q I rx h => h pins s σ v I rx
theorem semU_of {f} {r} (ho : UnR X f r) {x : V} {H : Hp} {Q : VK} (q : r x H Q) : semU X f x H Q := fun pins s σ v I rx => ho pins s σ H x v Q I rx q
theorem semC_ok {f} : CallR X f (semC X f) := fun pins s σ H x v Q I rx h => h pins s σ v I rx
theorem semC_of {f} {r} (ho : CallR X f r) {xs : List V} {H : Hp} {Q : VK} (q : r xs H Q) : semC X f xs H Q := fun pins s σ v I rx => ho pins s σ H xs v Q I rx q
theorem semM_ok {id} : MtR X id (semM X id) := fun pins s σ H x xs v us Q I rx rs h => h pins s σ v us I rx rs
theorem semM_of {id} {r} (ho : MtR X id r) {x : V} {xs : List V} {H : Hp} {Q : VK} (q : r x xs H Q) : semM X id x xs H Q := fun pins s σ v us I rx rs => ho pins s σ H x xs v us Q I rx rs q
theorem semI_ok : IxR X (semI X) := fun va sl pins s σ H x y v u Q I rx ry h hs => h va sl pins s σ v u I rx ry hs
theorem semI_of {r : R2} (ho : IxR X r) {x y : V} {H : Hp} {Q : VK} (q : r x y H Q) : semI X x y H Q := fun va sl pins s σ v u I rx ry hs => ho va sl pins s σ H x y v u Q I rx ry q hs
theorem de_two {F Hb H : Hp} {σ : St} {f} {pp : PP2} (hp : OD X f pp) (A : At X w F Hb H σ Γ M) (h : DE X w a Γ M fun x M1 => DE X w b Γ M1 fun y M2 => pp x y M2 Q) :
    semE X a σ H fun v H1 => semE X b σ H1 fun u H2 => semO X f v u H2 (PostE X w F Hb σ Γ Q) := by
  refine semE_mono (h.run F σ H Hb A) fun v H1 ⟨Hb1, d1, M1, e1, A1, r1, q1⟩ => ?_
  refine semE_mono (q1.run F σ H1 Hb1 A1) fun u H2 ⟨Hb2, d2, M2, e2, A2, r2, q2⟩ => ?_
  exact hp w F Hb Hb2 H2 σ Γ M2 v u d1 d2 Q A2 (e1.trans e2) (r1.mono e2) r2 q2
theorem de_bin {op : Operator} {pp : PP2} (hp : OD X (binaryOp op) pp) (h : DE X w a Γ M fun x M1 => DE X w b Γ M1 fun y M2 => pp x y M2 Q) : DE X w (.BinOp a op b pos) Γ M Q :=
  .mk fun F σ H Hb A => semE_of (pe_op semO_ok semE_ok semE_ok) (de_two hp A h)
theorem de_una {op : UnaryOp} {pp : PP1} (hp : UD X (unaryOp op) pp) (h : DE X w a Γ M fun x M1 => pp x M1 Q) : DE X w (.UnaryOp op a pos) Γ M Q :=
  .mk fun F σ H Hb A => semE_of (pe_un semU_ok semE_ok) (semE_mono (h.run F σ H Hb A) fun v H1 ⟨Hb1, d1, M1, e1, A1, r1, q1⟩ => hp w F Hb Hb1 H1 σ Γ M1 v d1 Q A1 e1 r1 q1)
theorem de_cmp {op : CmpOp} {pp : PP2} (hp : OD X (compareOp op) pp) (hm : behindInMarks op b = false) (h : DE X w a Γ M fun x M1 => DE X w b Γ M1 fun y M2 => pp x y M2 Q) : DE X w (.Compare a [op] [b] pos) Γ M Q :=
  .mk fun F σ H Hb A => semE_of (pe_cmpR semO_ok semE_ok semE_ok hm) (de_two hp A h)
theorem rep_bl {K : PySem.W.Frag} {mg : Str → Option Value} {Hb : Hp} {v : V} {b : Bool} (r : Rep K mg Hb v (.bl b)) : v = .bl b := by cases r; rfl
theorem PostE.test {F Hb H : Hp} {σ : St} {v : V} (h : PostE X w F Hb σ Γ (fun z M3 => ∃ c, z = .bl c ∧ QT c M3) v H) : ∃ k, v = .bl k ∧ PostT X w F Hb σ Γ QT k H := by
  obtain ⟨Hb', d, M', e1, A1, r1, c, rfl, q⟩ := h
  exact ⟨c, rep_bl r1, Hb', M', e1, A1, q⟩
theorem dt_cmp {op : CmpOp} {pp : PP2} (hp : OD X (compareOp op) pp) (hm : behindInMarks op b = false) (h : DE X w a Γ M fun x M1 => DE X w b Γ M1 fun y M2 => pp x y M2 fun z M3 => ∃ c, z = .bl c ∧ QT c M3) : DT X w (.Compare a [op] [b] pos) Γ M QT :=
  .mk fun F σ H Hb A => semT_of (pt_cmpR semO_ok semE_ok semE_ok hm) (semE_mono (de_two hp A h) fun v H1 q => semE_mono q fun u H2 q2 => semO_mono q2 fun z H3 q3 => q3.test)
/-- a value that is a bool, as a test (a name, a call, an attribute, a subscript ..) -/
theorem dt_val (he : ∀ whole, isTrue e X.env whole = (do let v ← whole; standAt e.pos; holding [v] (truthy v))) (h : DE X w e Γ M fun z M3 => ∃ c, z = .bl c ∧ QT c M3) : DT X w e Γ M QT :=
  .mk fun F σ H Hb A => semT_of (pt_val semE_ok he) (semE_mono (h.run F σ H Hb A) fun v H1 q => q.test)
/-- a op b op' c -/
theorem de_chain {op op' : CmpOp} {pp pp' : PP2} (hp : OD X (compareOp op) pp) (hp' : OD X (compareOp op') pp') (hm : lastMarks [op, op'] [b, c] = false)
    (h : DE X w a Γ M fun x M1 => DE X w b Γ M1 fun y M2 => pp x y M2 fun z M3 => ∃ t, z = .bl t ∧ (t = true → DE X w c Γ M3 fun y' M4 => pp' y y' M4 Q) ∧ (t = false → Q (.bl false) M3)) : DE X w (.Compare a [op, op'] [b, c] pos) Γ M Q := .mk fun F σ H Hb A => by
  refine semE_of (pe_chain semO_ok semO_ok semE_ok semE_ok semE_ok hm) ?_
  refine semE_mono (h.run F σ H Hb A) fun v H1 ⟨Hb1, d1, M1, e1, A1, r1, q1⟩ => ?_
  refine semE_mono (q1.run F σ H1 Hb1 A1) fun u H2 ⟨Hb2, d2, M2, e2, A2, r2, q2⟩ => ?_
  refine semO_mono (hp w F Hb2 Hb2 H2 σ Γ M2 v u d1 d2 _ A2 (Ex.refl _) (r1.mono e2) r2 q2) fun z H3 ⟨Hb3, d3, M3, e3, A3, r3, t, ht, q3, q4⟩ => ?_
  subst ht
  have ez := rep_bl r3
  subst ez
  refine ⟨t, rfl, ?_⟩
  cases t with
  | true =>
    rw [if_pos rfl]
    refine semE_mono ((q3 rfl).run F σ H3 Hb3 A3) fun v4 H4 ⟨Hb4, d4, M4, e4, A4, r4, q5⟩ => ?_
    exact hp' w F Hb Hb4 H4 σ Γ M4 u v4 d2 d4 Q A4 (((e1.trans e2).trans e3).trans e4) ((r2.mono e3).mono e4) r4 q5
  | false =>
    rw [if_neg Bool.false_ne_true]
    exact A3.val ((e1.trans e2).trans e3) .bl (q4 rfl)
theorem dt_chain {op op' : CmpOp} {pp pp' : PP2} (hp : OD X (compareOp op) pp) (hp' : OD X (compareOp op') pp') (hm : lastMarks [op, op'] [b, c] = false)
    (h : DE X w a Γ M fun x M1 => DE X w b Γ M1 fun y M2 => pp x y M2 fun z M3 => ∃ t, z = .bl t ∧ (t = true → DE X w c Γ M3 fun y' M4 => pp' y y' M4 fun z' M5 => ∃ t', z' = .bl t' ∧ QT t' M5) ∧ (t = false → QT false M3)) : DT X w (.Compare a [op, op'] [b, c] pos) Γ M QT := .mk fun F σ H Hb A => by
  refine semT_of (pt_chain semO_ok semO_ok semE_ok semE_ok semE_ok hm) ?_
  refine semE_mono (h.run F σ H Hb A) fun v H1 ⟨Hb1, d1, M1, e1, A1, r1, q1⟩ => ?_
  refine semE_mono (q1.run F σ H1 Hb1 A1) fun u H2 ⟨Hb2, d2, M2, e2, A2, r2, q2⟩ => ?_
  refine semO_mono (hp w F Hb2 Hb2 H2 σ Γ M2 v u d1 d2 _ A2 (Ex.refl _) (r1.mono e2) r2 q2) fun z H3 ⟨Hb3, d3, M3, e3, A3, r3, t, ht, q3, q4⟩ => ?_
  subst ht
  have ez := rep_bl r3
  subst ez
  refine ⟨t, rfl, ?_⟩
  cases t with
  | true =>
    rw [if_pos rfl]
    refine semE_mono ((q3 rfl).run F σ H3 Hb3 A3) fun v4 H4 ⟨Hb4, d4, M4, e4, A4, r4, q5⟩ => ?_
    exact semO_mono (hp' w F Hb Hb4 H4 σ Γ M4 u v4 d2 d4 _ A4 (((e1.trans e2).trans e3).trans e4) ((r2.mono e3).mono e4) r4 q5) fun z H5 q => q.test
  | false =>
    rw [if_neg Bool.false_ne_true]
    exact ⟨false, rfl, Hb3, M3, (e1.trans e2).trans e3, A3, q4 rfl⟩

/-! ### 8. and, or, not, if-else -/
theorem dt_dw (h : DW X w e Γ M QT) : DT X w e Γ M QT := .mk fun F σ H Hb A => semT_of (semW_ok.pt) (h.run F σ H Hb A)
theorem dw_and1 (h : DT X w a Γ M QT) : DW X w (.BoolOp .And [a] pos) Γ M QT := .mk fun F σ H Hb A => semW_of (pw_and1 semT_ok) (h.run F σ H Hb A)
theorem dw_or1 (h : DT X w a Γ M QT) : DW X w (.BoolOp .Or [a] pos) Γ M QT := .mk fun F σ H Hb A => semW_of (pw_or1 semT_ok) (h.run F σ H Hb A)
theorem dw_and (h : DT X w a Γ M fun t M1 => (t = true → DW X w (.BoolOp .And (b :: rest') pos) Γ M1 QT) ∧ (t = false → QT false M1)) : DW X w (.BoolOp .And (a :: b :: rest') pos) Γ M QT := .mk fun F σ H Hb A => by
  refine semW_of (pw_and semT_ok semW_ok) (semT_mono (h.run F σ H Hb A) fun t H1 ⟨Hb1, M1, e1, A1, q1, q2⟩ => ?_)
  cases t with
  | true => rw [if_pos rfl]; exact semW_mono ((q1 rfl).run F σ H1 Hb1 A1) fun t H2 ⟨Hb2, M2, e2, A2, q⟩ => ⟨Hb2, M2, e1.trans e2, A2, q⟩
  | false => rw [if_neg Bool.false_ne_true]; exact ⟨Hb1, M1, e1, A1, q2 rfl⟩
theorem dw_or (h : DT X w a Γ M fun t M1 => (t = true → QT true M1) ∧ (t = false → DW X w (.BoolOp .Or (b :: rest') pos) Γ M1 QT)) : DW X w (.BoolOp .Or (a :: b :: rest') pos) Γ M QT := .mk fun F σ H Hb A => by
  refine semW_of (pw_or semT_ok semW_ok) (semT_mono (h.run F σ H Hb A) fun t H1 ⟨Hb1, M1, e1, A1, q1, q2⟩ => ?_)
  cases t with
  | true => rw [if_pos rfl]; exact ⟨Hb1, M1, e1, A1, q1 rfl⟩
  | false => rw [if_neg Bool.false_ne_true]; exact semW_mono ((q2 rfl).run F σ H1 Hb1 A1) fun t H2 ⟨Hb2, M2, e2, A2, q⟩ => ⟨Hb2, M2, e1.trans e2, A2, q⟩
theorem dt_not (h : DT X w a Γ M fun t M1 => QT (!t) M1) : DT X w (.UnaryOp .Not a pos) Γ M QT := .mk fun F σ H Hb A =>
  semT_of (pt_not semT_ok) (semT_mono (h.run F σ H Hb A) fun t H1 q => q)
theorem de_notB (h : DE X w a Γ M fun z M1 => ∃ t, z = .bl t ∧ Q (.bl (!t)) M1) : DE X w (.UnaryOp .Not a pos) Γ M Q := .mk fun F σ H Hb A => by
  refine semE_of (pe_not semE_ok) (semE_mono (h.run F σ H Hb A) fun v H1 ⟨Hb1, d1, M1, e1, A1, r1, t, ht, q⟩ => ?_)
  subst ht
  exact ⟨t, rep_bl r1, A1.val e1 .bl q⟩
theorem de_one {op : BoolOp} (h : DE X w a Γ M Q) : DE X w (.BoolOp op [a] pos) Γ M Q := .mk fun F σ H Hb A => semE_of (pe_one semE_ok) (h.run F σ H Hb A)
theorem de_and (h : DE X w a Γ M fun z M1 => ∃ t, z = .bl t ∧ (t = true → DE X w (.BoolOp .And (b :: rest') pos) Γ M1 Q) ∧ (t = false → Q (.bl false) M1)) : DE X w (.BoolOp .And (a :: b :: rest') pos) Γ M Q := .mk fun F σ H Hb A => by
  refine semE_of (pe_and semE_ok semE_ok) (semE_mono (h.run F σ H Hb A) fun v H1 ⟨Hb1, d1, M1, e1, A1, r1, t, ht, q1, q2⟩ => ?_)
  subst ht
  refine ⟨t, rep_bl r1, ?_⟩
  cases t with
  | true => rw [if_pos rfl]; exact semE_mono ((q1 rfl).run F σ H1 Hb1 A1) fun t H2 ⟨Hb2, d2, M2, e2, A2, q⟩ => ⟨Hb2, d2, M2, e1.trans e2, A2, q⟩
  | false => rw [if_neg Bool.false_ne_true]; exact A1.val e1 .bl (q2 rfl)
theorem de_or (h : DE X w a Γ M fun z M1 => ∃ t, z = .bl t ∧ (t = true → Q (.bl true) M1) ∧ (t = false → DE X w (.BoolOp .Or (b :: rest') pos) Γ M1 Q)) : DE X w (.BoolOp .Or (a :: b :: rest') pos) Γ M Q := .mk fun F σ H Hb A => by
  refine semE_of (pe_or semE_ok semE_ok) (semE_mono (h.run F σ H Hb A) fun v H1 ⟨Hb1, d1, M1, e1, A1, r1, t, ht, q1, q2⟩ => ?_)
  subst ht
  refine ⟨t, rep_bl r1, ?_⟩
  cases t with
  | true => rw [if_pos rfl]; exact A1.val e1 .bl (q1 rfl)
  | false => rw [if_neg Bool.false_ne_true]; exact semE_mono ((q2 rfl).run F σ H1 Hb1 A1) fun t H2 ⟨Hb2, d2, M2, e2, A2, q⟩ => ⟨Hb2, d2, M2, e1.trans e2, A2, q⟩
theorem de_ife (h : DT X w c Γ M fun t M1 => (t = true → DE X w a Γ M1 Q) ∧ (t = false → DE X w b Γ M1 Q)) : DE X w (.IfExp c a b pos) Γ M Q := .mk fun F σ H Hb A => by
  refine semE_of (pe_ifExp semT_ok semE_ok semE_ok) (semT_mono (h.run F σ H Hb A) fun t H1 ⟨Hb1, M1, e1, A1, q1, q2⟩ => ?_)
  cases t with
  | true => rw [if_pos rfl]; exact semE_mono ((q1 rfl).run F σ H1 Hb1 A1) fun t H2 ⟨Hb2, d2, M2, e2, A2, q⟩ => ⟨Hb2, d2, M2, e1.trans e2, A2, q⟩
  | false => rw [if_neg Bool.false_ne_true]; exact semE_mono ((q2 rfl).run F σ H1 Hb1 A1) fun t H2 ⟨Hb2, d2, M2, e2, A2, q⟩ => ⟨Hb2, d2, M2, e1.trans e2, A2, q⟩
/-- the same without a fork: a test, an expression, of known value that leaves the memory as it is -/
theorem dt_is {t : Bool} (h : DT X w e Γ M fun t' M1 => t' = t ∧ M1 = M) (q : QT t M) : DT X w e Γ M QT := dt_imp h fun t' M1 ⟨h1, h2⟩ => by subst h1 h2; exact q
theorem dw_is {t : Bool} (h : DW X w e Γ M fun t' M1 => t' = t ∧ M1 = M) (q : QT t M) : DW X w e Γ M QT := dw_imp h fun t' M1 ⟨h1, h2⟩ => by subst h1 h2; exact q
theorem de_is {d : D} (h : DE X w e Γ M fun d' M1 => d' = d ∧ M1 = M) (q : Q d M) : DE X w e Γ M Q := de_imp h fun t' M1 ⟨h1, h2⟩ => by subst h1 h2; exact q

/-! ### 9. Arguments, displays -/
theorem da_nil {Q : List D → Mm → Prop} (q : Q [] M) : DA X w [] Γ M Q := .mk fun F σ H Hb A => semA_of pa_nil ⟨Hb, [], M, Ex.refl _, A, .nil, q⟩
theorem da_cons {Q : List D → Mm → Prop} (hs : starEach (e :: es) X.env = (false, eval e X.env) :: starEach es X.env) (h : DE X w e Γ M fun d M1 => DA X w es Γ M1 fun ds M2 => Q (d :: ds) M2) : DA X w (e :: es) Γ M Q := .mk fun F σ H Hb A => by
  refine semA_of (pa_cons semE_ok semA_ok hs) (semE_mono (h.run F σ H Hb A) fun v H1 ⟨Hb1, d1, M1, e1, A1, r1, q1⟩ => ?_)
  exact semA_mono (q1.run F σ H1 Hb1 A1) fun vs H2 ⟨Hb2, ds, M2, e2, A2, r2, q2⟩ => ⟨Hb2, d1 :: ds, M2, e1.trans e2, A2, .cons (r1.mono e2) r2, q2⟩
/-- the items of a sequence -/
def D.seq : D → Option (List D)
  | .lst ds => some ds
  | .tup ds => some ds
  | _ => none
theorem rep_seq {K : PySem.W.Frag} {mg : Str → Option Value} {Hb H : Hp} {v : V} {d : D} {ds : List D} (r : Rep K mg Hb v d) (e : Ex Hb H) (h : d.seq = some ds) : ∃ p vs, v = .ref p ∧ (SqT K H p vs ∨ SqL K H p vs) ∧ Reps K mg Hb vs ds := by
  cases r with
  | tup h1 h2 => cases h; exact ⟨_, _, rfl, .inl (ex_t e h1), h2⟩
  | lst h1 h2 => cases h; exact ⟨_, _, rfl, .inr (SqL.of (e _ _ h1)), h2⟩
  | _ => cases h
theorem da_star {Q : List D → Mm → Prop} {p : Pos} (hs : starEach (.Starred e p :: es) X.env = (true, eval e X.env) :: starEach es X.env)
    (h : DE X w e Γ M fun d M1 => ∃ xs, d.seq = some xs ∧ DA X w es Γ M1 fun ds M2 => Q (xs ++ ds) M2) : DA X w (.Starred e p :: es) Γ M Q := .mk fun F σ H Hb A => by
  refine semA_of (StX.pa_star semE_ok semA_ok hs) (semE_mono (h.run F σ H Hb A) fun v H1 ⟨Hb1, d1, M1, e1, A1, r1, xs, hx, q1⟩ => ?_)
  obtain ⟨p, vs, rfl, hq, rs⟩ := rep_seq r1 A1.hs.ex hx
  refine ⟨p, vs, rfl, hq, ?_⟩
  exact semA_mono (q1.run F σ H1 Hb1 A1) fun vs H2 ⟨Hb2, ds, M2, e2, A2, r2, q2⟩ => ⟨Hb2, xs ++ ds, M2, e1.trans e2, A2, (rs.mono e2).append r2, q2⟩
theorem de_tup {x1} (h : DA X w es Γ M fun ds M1 => ds.length ≤ sizeLine ∧ Q (.tup ds) M1) : DE X w (.Tuple es x1 pos) Γ M Q := .mk fun F σ H Hb A =>
  semE_of (pe_tup semA_ok) (semA_mono (h.run F σ H Hb A) fun vs H1 ⟨Hb1, ds, M1, e1, A1, r1, l, q1⟩ => ⟨by rw [r1.length]; exact l, fun p hp => A1.tup e1 r1 hp q1⟩)
theorem de_lst (h : DA X w es Γ M fun ds M1 => ds.length ≤ sizeLine ∧ Q (.lst ds) M1) : DE X w (.List es pos) Γ M Q := .mk fun F σ H Hb A =>
  semE_of (pe_lst semA_ok) (semA_mono (h.run F σ H Hb A) fun vs H1 ⟨Hb1, ds, M1, e1, A1, r1, l, q1⟩ => ⟨by rw [r1.length]; exact l, fun p hp => A1.lst e1 r1 hp q1⟩)
/-- a list that will change -/
theorem de_lstM (h : DA X w es Γ M fun ds M1 => ds.length ≤ sizeLine ∧ ∀ p, M1 p = none → Q (.ptr p) (M1.put p (.l ds))) : DE X w (.List es pos) Γ M Q := .mk fun F σ H Hb A =>
  semE_of (pe_lst semA_ok) (semA_mono (h.run F σ H Hb A) fun vs H1 ⟨Hb1, ds, M1, e1, A1, r1, l, q1⟩ => ⟨by rw [r1.length]; exact l, fun p hp =>
    ⟨Hb1, _, _, e1, A1.cell (c := .l ds) hp ⟨vs, upd_same, r1⟩, .ptr, q1 p (A1.hs.free hp)⟩⟩)

/-! ### 10. Subscripts and slices -/
theorem de_ix {pp : PP2} (hp : XD X pp) (hs : PlainIx b) (h : DE X w a Γ M fun x M1 => DE X w b Γ M1 fun y M2 => pp x y M2 Q) : DE X w (.Subscript a b pos) Γ M Q := .mk fun F σ H Hb A => by
  refine semE_of (pe_ix semI_ok semE_ok semE_ok hs) ?_
  refine semE_mono (h.run F σ H Hb A) fun v H1 ⟨Hb1, d1, M1, e1, A1, r1, q1⟩ => ?_
  refine semE_mono (q1.run F σ H1 Hb1 A1) fun u H2 ⟨Hb2, d2, M2, e2, A2, r2, q2⟩ => ?_
  exact hp w F Hb Hb2 H2 σ Γ M2 v u d1 d2 Q A2 (e1.trans e2) (r1.mono e2) r2 q2
/-- the item at an index -/
def pIx : PP2
  | .lst ds, .int i, M, Q => ∃ d, atI ds i = some d ∧ Q d M
  | .tup ds, .int i, M, Q => ∃ d, atI ds i = some d ∧ Q d M
  | .str s, .int i, M, Q => s.length ≤ sizeLine ∧ ∃ c, atI s.cps.toList i = some c ∧ Q (.str ⟨#[c]⟩) M
  | .ptr p, .int i, M, Q => ∃ ds d, M p = some (.l ds) ∧ atI ds i = some d ∧ Q d M
  | _, _, _, _ => False
theorem Reps.atI {K : PySem.W.Frag} {mg : Str → Option Value} {Hb : Hp} {vs : List V} {ds : List D} (r : Reps K mg Hb vs ds) {i : Int} {d : D} (h : L2.atI ds i = some d) : ∃ v, L2.atI vs i = some v ∧ Rep K mg Hb v d := by
  unfold L2.atI at h ⊢
  rw [r.length]
  cases e : ixN ds.length i with
  | none => rw [e] at h; cases h
  | some j => rw [e] at h; exact r.get h
theorem xd_ix : XD X pIx := by
  intro w F H0 Hb H σ Γ M v u x y Q A e rx ry q
  cases ry with
  | int =>
    cases rx with
    | lst h r => obtain ⟨d, h1, h2⟩ := q; obtain ⟨z, h3, h4⟩ := r.atI h1; exact semI_of ix_list ⟨_, _, _, z, rfl, rfl, SqL.of (A.hs.ex _ _ h), h3, A.val e h4 h2⟩
    | tup h r => obtain ⟨d, h1, h2⟩ := q; obtain ⟨z, h3, h4⟩ := r.atI h1; exact semI_of ix_tup ⟨_, _, _, z, rfl, rfl, ex_t A.hs.ex h, h3, A.val e h4 h2⟩
    | str => obtain ⟨l, c, h1, h2⟩ := q; exact semI_of ix_str ⟨_, _, c, rfl, rfl, l, h1, A.val e .str h2⟩
    | ptr =>
      obtain ⟨ds, d, h0, h1, h2⟩ := q
      obtain ⟨_, vs, h, r⟩ := A.hs.ce _ _ h0
      obtain ⟨z, h3, h4⟩ := r.atI h1
      exact semI_of ix_list ⟨_, _, _, z, rfl, rfl, SqL.of h, h3, A.val e h4 h2⟩
    | _ => exact q.elim
  | _ => cases x <;> exact q.elim
end
end L3
namespace L3
open PySem PySem.Spec PyProof.Rows L2

/-! ### 11. == of data -/
mutual
/-- what is compared by == part by part -/
def D.py : D → PyData
  | .bl b => .bool b
  | .int i => .int i
  | .str s => .str s
  | .tup ds => .tuple (D.pys ds)
  | .lst ds => .list (D.pys ds)
  | _ => .none
def D.pys : List D → List PyData
  | [] => []
  | d :: ds => D.py d :: D.pys ds
end
mutual
/-- data: None, bools, ints, texts, lists and tuples of such, at most n deep -/
def D.ok : Nat → D → Bool
  | _, .non => true
  | _, .bl _ => true
  | _, .int _ => true
  | _, .str s => PyData.canLay0 (.str s)
  | n + 1, .tup ds => D.oks n ds
  | n + 1, .lst ds => D.oks n ds
  | _, _ => false
def D.oks : Nat → List D → Bool
  | _, [] => true
  | n, d :: ds => D.ok n d && D.oks n ds
end
section
variable {K : PySem.W.Frag} {mg : Str → Option Value} {Hb H : Hp}
theorem reps_of {n : Nat} (h : ∀ {d : D} {v : V}, Rep K mg Hb v d → D.ok n d = true → Dp K H v d.py) : ∀ {ds : List D} {vs : List V}, Reps K mg Hb vs ds → D.oks n ds = true → DpAll K H vs (D.pys ds)
  | [], _, r, _ => by cases r; exact .nil
  | d :: ds, _, r, q => by
    cases r with
    | cons r t =>
      simp only [D.oks, Bool.and_eq_true] at q
      exact .cons (h r q.1) (reps_of h t q.2)
theorem rep_py (e : Ex Hb H) : ∀ {n : Nat} {d : D} {v : V}, Rep K mg Hb v d → D.ok n d = true → Dp K H v d.py := fun {n} => by
  induction n with
  | zero =>
    intro d v r q
    cases r with
    | non => exact .non
    | bl => exact .bl _
    | int => exact .int _
    | str => exact .str _
    | _ => simp [D.ok] at q
  | succ n ih =>
    intro d v r q
    cases r with
    | non => exact .non
    | bl => exact .bl _
    | int => exact .int _
    | str => exact .str _
    | tup h r => exact .tup (ex_t e h) (reps_of ih r (by simpa [D.ok] using q))
    | lst h r => exact .lst (SqL.of (e _ _ h)) (reps_of ih r (by simpa [D.ok] using q))
    | _ => simp [D.ok] at q
theorem reps_py (e : Ex Hb H) {n : Nat} {ds : List D} {vs : List V} (r : Reps K mg Hb vs ds) (q : D.oks n ds = true) : DpAll K H vs (D.pys ds) := reps_of (fun r q => rep_py e r q) r q
end
theorem D.lays_of {n : Nat} (h : ∀ {d : D}, D.ok n d = true → d.py.canLay0 = true ∧ d.py.depth ≤ n) : ∀ {ds : List D}, D.oks n ds = true → PyData.canLayAll0 (D.pys ds) = true ∧ PyData.depthAll (D.pys ds) ≤ n
  | [], _ => ⟨rfl, by simp [D.pys, PyData.depthAll]⟩
  | d :: ds, q => by
    simp only [D.oks, Bool.and_eq_true] at q
    have h1 := h q.1
    have h2 := D.lays_of h q.2
    exact ⟨by simp only [D.pys, PyData.canLayAll0, h1.1, h2.1, Bool.and_self], by simp only [D.pys, PyData.depthAll]; omega⟩
theorem D.lay : ∀ {n : Nat} {d : D}, D.ok n d = true → d.py.canLay0 = true ∧ d.py.depth ≤ n := fun {n} => by
  induction n with
  | zero =>
    intro d q
    cases d with
    | non => exact ⟨rfl, by simp [D.py, PyData.depth]⟩
    | bl b => exact ⟨rfl, by simp [D.py, PyData.depth]⟩
    | int i => exact ⟨rfl, by simp [D.py, PyData.depth]⟩
    | str s => exact ⟨by simpa [D.py, D.ok] using q, by simp [D.py, PyData.depth]⟩
    | _ => simp [D.ok] at q
  | succ n ih =>
    intro d q
    cases d with
    | non => exact ⟨rfl, by simp [D.py, PyData.depth]⟩
    | bl b => exact ⟨rfl, by simp [D.py, PyData.depth]⟩
    | int i => exact ⟨rfl, by simp [D.py, PyData.depth]⟩
    | str s => exact ⟨by simpa [D.py, D.ok] using q, by simp [D.py, PyData.depth]⟩
    | tup ds =>
      have h := D.lays_of ih (ds := ds) (by simpa [D.ok] using q)
      exact ⟨by simpa [D.py, PyData.canLay0] using h.1, by simp only [D.py, PyData.depth]; omega⟩
    | lst ds =>
      have h := D.lays_of ih (ds := ds) (by simpa [D.ok] using q)
      exact ⟨by simpa [D.py, PyData.canLay0] using h.1, by simp only [D.py, PyData.depth]; omega⟩
    | _ => simp [D.ok] at q
theorem D.lays {n : Nat} {ds : List D} (q : D.oks n ds = true) : PyData.canLayAll0 (D.pys ds) = true ∧ PyData.depthAll (D.pys ds) ≤ n := D.lays_of (fun q => D.lay q) q
theorem D.shaped {d : D} (h : D.ok 60 d = true) : SeqAt.shaped d.py = true := by
  have q := D.lay h
  show (d.py.canLay0 && decide (d.py.depth ≤ 64)) = true
  rw [Bool.and_eq_true]
  exact ⟨q.1, decide_eq_true (by omega)⟩
def D.eq (x y : D) : Bool := PyData.eqv x.py y.py

section
variable {X : Cx}
/-- from two operations one -/
theorem OD.of {f} {r : R2} {pp : PP2} (ho : OpR X f r) (hp : ∀ (w : Wi) (F H0 Hb H : Hp) (σ : St) (Γ : Ga) (M : Mm) (v u : V) (x y : D) (Q : D → Mm → Prop), At X w F Hb H σ Γ M → Ex H0 Hb → Rep X.K X.mg Hb v x → Rep X.K X.mg Hb u y → pp x y M Q → r v u H (PostE X w F H0 σ Γ Q)) : OD X f pp :=
  fun w F H0 Hb H σ Γ M v u x y Q A e rx ry q => semO_of ho (hp w F H0 Hb H σ Γ M v u x y Q A e rx ry q)
def pEq : PP2 := fun x y M Q => D.ok 60 x = true ∧ D.ok 60 y = true ∧ Q (.bl (D.eq x y)) M
def pNe : PP2 := fun x y M Q => D.ok 60 x = true ∧ D.ok 60 y = true ∧ Q (.bl (!D.eq x y)) M
theorem od_eq (hu : X.A.units + 64 < cLine) : OD X (compareOp .Eq) pEq := .of (op_eqD hu) fun w F H0 Hb H σ Γ M v u x y Q A e rx ry ⟨h1, h2, q⟩ =>
  ⟨x.py, y.py, rep_py A.hs.ex rx h1, rep_py A.hs.ex ry h2, D.shaped h1, D.shaped h2, A.val e .bl q⟩
theorem od_ne (hu : X.A.units + 64 < cLine) : OD X (compareOp .NotEq) pNe := .of (op_neD hu) fun w F H0 Hb H σ Γ M v u x y Q A e rx ry ⟨h1, h2, q⟩ =>
  ⟨x.py, y.py, rep_py A.hs.ex rx h1, rep_py A.hs.ex ry h2, D.shaped h1, D.shaped h2, A.val e .bl q⟩

/-! ### 12. Numbers, texts, lists -/
def pI2 (C : Int → Int → Prop) (g : Int → Int → D) : PP2
  | .int i, .int j, M, Q => C i j ∧ Q (g i j) M
  | _, _, _, _ => False
theorem od_I2 {f} {C : Int → Int → Prop} {gv : Int → Int → V} {g : Int → Int → D} (ho : OpR X f (rI C gv)) (hg : ∀ i j Hb, Rep X.K X.mg Hb (gv i j) (g i j)) : OD X f (pI2 C g) := .of ho fun w F H0 Hb H σ Γ M v u x y Q A e rx ry q => by
  cases rx <;> cases ry <;> first | exact q.elim | skip
  exact ⟨_, _, rfl, rfl, q.1, A.val e (hg _ _ _) q.2⟩
theorem rI0_of {f} {gv : Int → Int → V} (ho : OpR X f (rI0 gv)) : OpR X f (rI (fun _ _ => True) gv) := fun pins s σ H x y v u Q I rx ry ⟨i, j, h1, h2, _, q⟩ => ho pins s σ H x y v u Q I rx ry ⟨i, j, h1, h2, q⟩
abbrev T2 : Int → Int → Prop := fun _ _ => True
theorem od_sub : OD X (binaryOp .Sub) (pI2 T2 fun i j => .int (i - j)) := od_I2 (rI0_of op_sub) fun _ _ _ => .int
theorem od_fdiv : OD X (binaryOp .FloorDiv) (pI2 CDiv fun i j => .int (i / j)) := od_I2 op_fdiv fun _ _ _ => .int
theorem od_mod : OD X (binaryOp .Mod) (pI2 (fun _ j => 0 < j) fun i j => .int (i % j)) := od_I2 op_mod fun _ _ _ => .int
theorem od_pow : OD X (binaryOp .Pow) (pI2 CPow fun i j => .int (i ^ j.toNat)) := od_I2 op_pow fun _ _ _ => .int
def pLt (f : Int → Int → Bool) : PP2 := pI2 T2 fun i j => .bl (f i j)
theorem od_lt : OD X (compareOp .Lt) (pI2 T2 fun i j => .bl (decide (i < j))) := od_I2 (rI0_of op_lt) fun _ _ _ => .bl
theorem od_le : OD X (compareOp .LtE) (pI2 T2 fun i j => .bl (decide (i ≤ j))) := od_I2 (rI0_of op_le) fun _ _ _ => .bl
theorem od_gt : OD X (compareOp .Gt) (pI2 T2 fun i j => .bl (decide (j < i))) := od_I2 (rI0_of op_gt) fun _ _ _ => .bl
theorem od_ge : OD X (compareOp .GtE) (pI2 T2 fun i j => .bl (decide (j ≤ i))) := od_I2 (rI0_of op_ge) fun _ _ _ => .bl
theorem ud_neg : UD X (unaryOp .USub) (fun x M Q => match x with | .int i => Q (.int (-i)) M | _ => False) := fun w F H0 Hb H σ Γ M v x Q A e rx q => by
  cases rx <;> first | exact q.elim | skip
  exact semU_of un_neg ⟨_, rfl, A.val e .int q⟩
def pAdd : PP2
  | .int i, .int j, M, Q => Q (.int (i + j)) M
  | .str s, .str t, M, Q => s.length + t.length ≤ sizeLine ∧ Q (.str (s ++ t)) M
  | .lst a, .lst b, M, Q => a.length + b.length ≤ sizeLine ∧ Q (.lst (a ++ b)) M
  | .tup a, .tup b, M, Q => a.length + b.length ≤ sizeLine ∧ Q (.tup (a ++ b)) M
  | _, _, _, _ => False
theorem od_add : OD X (binaryOp .Add) pAdd := fun w F H0 Hb H σ Γ M v u x y Q A e rx ry q => by
  cases rx <;> cases ry <;> first | exact q.elim | skip
  · exact semO_of op_add ⟨_, _, rfl, rfl, A.val e .int q⟩
  · exact semO_of op_add_str ⟨_, _, rfl, rfl, q.1, A.val e .str q.2⟩
  · rename_i ds1 h1 r1 _ _ ds2 h2 r2
    refine semO_of op_catA ⟨_, _, _, _, rfl, rfl, ex_t A.hs.ex h1, ex_t A.hs.ex h2, by rw [r1.length, r2.length]; exact q.1, fun z => ?_, fun _ z => ?_, fun _ _ p hp => A.tup e (r1.append r2) hp q.2⟩
    · subst z
      cases r1
      exact A.val e (.tup h2 r2) q.2
    · subst z
      cases r2
      have q2 := q.2
      rw [List.append_nil] at q2
      exact A.val e (.tup h1 r1) q2
  · rename_i h1 r1 _ _ _ h2 r2
    exact semO_of op_cat ⟨_, _, _, _, rfl, rfl, A.hs.ex _ _ h1, A.hs.ex _ _ h2, by rw [r1.length, r2.length]; exact q.1, fun p hp => A.lst e (r1.append r2) hp q.2⟩
/-- a text taken once, or not at all -/
theorem op_mul_str01 : OpR X (binaryOp .Mult) (fun x y H Q => ∃ (z : Str) (b : Bool), x = .str z ∧ y = .int (if b then 1 else 0) ∧ Q (.str (if b then z else Str.empty)) H) := by
  intro pins s σ H x y v u Q I rx ry h
  obtain ⟨z, b, rfl, rfl, q⟩ := h
  obtain ⟨t, rfl⟩ := rx
  obtain ⟨t', rfl⟩ := ry
  cases b with
  | false => exact PySem.P.mul_str_none (by decide) (by decide) ⟨.str _, H, I.tok _, ⟨_, rfl⟩, q⟩
  | true =>
    refine PySem.P.mul_str (by decide) (fun _ h => ?_) (fun _ h => ?_) ?_
    · exact absurd h (by simp)
    · exact absurd h (by simp)
    · rw [if_neg (by decide), if_pos (by simp)]
      exact ⟨.str _, H, I, ⟨_, rfl⟩, q⟩
def pMul : PP2
  | .int i, .int j, M, Q => CMul i j ∧ Q (.int (i * j)) M
  | .str z, .int n, M, Q => ∃ b : Bool, n = (if b then 1 else 0) ∧ Q (.str (if b then z else Str.empty)) M
  | .lst ds, .int n, M, Q => -(2 ^ 63) ≤ n ∧ n < 2 ^ 63 ∧ ds.length * n.toNat ≤ sizeLine ∧ Q (.lst (List.replicate n.toNat ds).flatten) M
  | _, _, _, _ => False
theorem Reps.rep {K : PySem.W.Frag} {mg : Str → Option Value} {Hb : Hp} {vs : List V} {ds : List D} (r : Reps K mg Hb vs ds) : ∀ n : Nat, Reps K mg Hb (List.replicate n vs).flatten (List.replicate n ds).flatten
  | 0 => .nil
  | n + 1 => by rw [List.replicate_succ, List.replicate_succ, List.flatten_cons, List.flatten_cons]; exact r.append (Reps.rep r n)
theorem od_mul : OD X (binaryOp .Mult) pMul := fun w F H0 Hb H σ Γ M v u x y Q A e rx ry q => by
  cases rx <;> cases ry <;> first | exact q.elim | skip
  · exact semO_of op_mul ⟨_, _, rfl, rfl, q.1, A.val e .int q.2⟩
  · obtain ⟨b, h, q⟩ := q
    exact semO_of op_mul_str01 ⟨_, b, rfl, by rw [h], A.val e .str q⟩
  · rename_i h1 r1 _
    obtain ⟨h2, h3, h4, q⟩ := q
    exact semO_of op_rep ⟨_, _, _, rfl, rfl, A.hs.ex _ _ h1, h2, h3, by rw [r1.length]; exact h4, fun p hp => A.lst e (r1.rep _) hp q⟩
def pIs : PP2 := fun x y M Q => y = .non ∧ match x with | .any => False | .non => Q (.bl true) M | _ => Q (.bl false) M
def pIsNot : PP2 := fun x y M Q => y = .non ∧ match x with | .any => False | .non => Q (.bl false) M | _ => Q (.bl true) M
theorem od_is : OD X (compareOp .Is) pIs := .of op_isN fun w F H0 Hb H σ Γ M v u x y Q A e rx ry ⟨h, q⟩ => by
  subst h
  cases ry
  cases rx <;> first | exact q.elim | exact ⟨rfl, A.val e (d := .bl _) .bl q⟩
theorem od_isnot : OD X (compareOp .IsNot) pIsNot := .of op_notN fun w F H0 Hb H σ Γ M v u x y Q A e rx ry ⟨h, q⟩ => by
  subst h
  cases ry
  cases rx <;> first | exact q.elim | exact ⟨rfl, A.val e (d := .bl _) .bl q⟩
/-! in -/
theorem op_inTD (hu : X.A.units + 65 < cLine) : OpR X (compareOp .In) (fun x y H Q => ∃ d ds, Dp X.K H x d ∧ Dp X.K H y (.tuple ds) ∧ SeqAt.shaped d = true ∧ SeqAt.shaped (.tuple ds) = true ∧ Q (.bl (ds.any fun z => PyData.eqv z d)) H) := by
  intro pins s σ H x y v u Q I rx ry h
  obtain ⟨d, ds, hd, he, sd, se, q⟩ := h
  obtain ⟨as, r1⟩ := Dp.reads I d x v hd rx
  obtain ⟨bs, r2⟩ := Dp.reads I (.tuple ds) y u he ry
  exact SeqAt.in_tuple_reads r2 r1 (SeqAt.canLay_of_shaped se) (SeqAt.canLay_of_shaped sd) (room_in_shaped sd hu) ⟨.bl _, H, I, rfl, q⟩
theorem op_notInTD (hu : X.A.units + 65 < cLine) : OpR X (compareOp .NotIn) (fun x y H Q => ∃ d ds, Dp X.K H x d ∧ Dp X.K H y (.tuple ds) ∧ SeqAt.shaped d = true ∧ SeqAt.shaped (.tuple ds) = true ∧ Q (.bl (!ds.any fun z => PyData.eqv z d)) H) := by
  intro pins s σ H x y v u Q I rx ry h
  obtain ⟨d, ds, hd, he, sd, se, q⟩ := h
  obtain ⟨as, r1⟩ := Dp.reads I d x v hd rx
  obtain ⟨bs, r2⟩ := Dp.reads I (.tuple ds) y u he ry
  exact SeqAt.notIn_tuple_reads r2 r1 (SeqAt.canLay_of_shaped se) (SeqAt.canLay_of_shaped sd) (room_in_shaped sd hu) ⟨.bl _, H, I, rfl, q⟩
def D.mem (x : D) (ds : List D) : Bool := ds.any fun z => D.eq z x
theorem any_pys (x : PyData) : ∀ ds : List D, (D.pys ds).any (fun z => PyData.eqv z x) = ds.any fun z => PyData.eqv z.py x
  | [] => rfl
  | d :: ds => by simp only [D.pys, List.any_cons, any_pys x ds]
/-- x in y: a list or a tuple of data; a text in a text -/
def pIn (neg : Bool) : PP2
  | x, .lst ds, M, Q => D.ok 60 x = true ∧ D.oks 59 ds = true ∧ Q (.bl (if neg then !D.mem x ds else D.mem x ds)) M
  | x, .tup ds, M, Q => D.ok 60 x = true ∧ D.oks 59 ds = true ∧ Q (.bl (if neg then !D.mem x ds else D.mem x ds)) M
  | .str c, .str s, M, Q => ∃ k, c = ⟨#[k]⟩ ∧ Q (.bl (if neg then !decide (k ∈ s.cps.toList) else decide (k ∈ s.cps.toList))) M
  | .int i, .dK kvs, M, Q => False
  | x, .ptr p, M, Q => ∃ ds, M p = some (.l ds) ∧ D.ok 60 x = true ∧ D.oks 59 ds = true ∧ Q (.bl (if neg then !D.mem x ds else D.mem x ds)) M
  | _, _, _, _ => False
theorem oks_lst {ds : List D} (h : D.oks 59 ds = true) : D.ok 60 (.lst ds) = true := h
theorem oks_tup {ds : List D} (h : D.oks 59 ds = true) : D.ok 60 (.tup ds) = true := h
theorem od_in (hu : X.A.units + 65 < cLine) : OD X (compareOp .In) (pIn false) := fun w F H0 Hb H σ Γ M v u x y Q A e rx ry q => by
  have key : ∀ {p : Addr} {vs : List V} {ds : List D}, SqL X.K H p vs → Reps X.K X.mg Hb vs ds → D.ok 60 x = true → D.oks 59 ds = true → Q (.bl (D.mem x ds)) M → semO X (compareOp .In) v (.ref p) H (PostE X w F H0 σ Γ Q) := fun {p vs ds} h1 h2 h3 h4 h5 =>
    semO_of (op_inD hu) ⟨x.py, D.pys ds, rep_py A.hs.ex rx h3, .lst h1 (reps_py A.hs.ex h2 h4), D.shaped h3, D.shaped (oks_lst h4), by rw [any_pys]; exact A.val e .bl h5⟩
  cases ry with
  | lst h r =>
    rename_i p vs ds
    have q' : D.ok 60 x = true ∧ D.oks 59 ds = true ∧ Q (.bl (D.mem x ds)) M := by cases x <;> exact q
    exact key (SqL.of (A.hs.ex _ _ h)) r q'.1 q'.2.1 q'.2.2
  | tup h r =>
    rename_i p vs ds
    have q' : D.ok 60 x = true ∧ D.oks 59 ds = true ∧ Q (.bl (D.mem x ds)) M := by cases x <;> exact q
    exact semO_of (op_inTD hu) ⟨x.py, D.pys ds, rep_py A.hs.ex rx q'.1, .tup (ex_t A.hs.ex h) (reps_py A.hs.ex r q'.2.1), D.shaped q'.1, D.shaped (oks_tup q'.2.1), by rw [any_pys]; exact A.val e .bl q'.2.2⟩
  | ptr =>
    rename_i p
    have q' : ∃ ds, M p = some (.l ds) ∧ D.ok 60 x = true ∧ D.oks 59 ds = true ∧ Q (.bl (D.mem x ds)) M := by cases x <;> exact q
    obtain ⟨ds, h0, h1, h2, h3⟩ := q'
    obtain ⟨_, vs, h, r⟩ := A.hs.ce _ _ h0
    exact key (SqL.of h) r h1 h2 h3
  | str =>
    cases rx <;> first | exact q.elim | skip
    obtain ⟨k, rfl, q⟩ := q
    exact semO_of op_in_sign ⟨k, _, rfl, rfl, A.val e .bl q⟩
  | _ => cases x <;> exact q.elim
theorem od_notin (hu : X.A.units + 65 < cLine) : OD X (compareOp .NotIn) (pIn true) := fun w F H0 Hb H σ Γ M v u x y Q A e rx ry q => by
  have key : ∀ {p : Addr} {vs : List V} {ds : List D}, SqL X.K H p vs → Reps X.K X.mg Hb vs ds → D.ok 60 x = true → D.oks 59 ds = true → Q (.bl (!D.mem x ds)) M → semO X (compareOp .NotIn) v (.ref p) H (PostE X w F H0 σ Γ Q) := fun {p vs ds} h1 h2 h3 h4 h5 =>
    semO_of (op_notInD hu) ⟨x.py, D.pys ds, rep_py A.hs.ex rx h3, .lst h1 (reps_py A.hs.ex h2 h4), D.shaped h3, D.shaped (oks_lst h4), by rw [any_pys]; exact A.val e .bl h5⟩
  cases ry with
  | lst h r =>
    rename_i p vs ds
    have q' : D.ok 60 x = true ∧ D.oks 59 ds = true ∧ Q (.bl (!D.mem x ds)) M := by cases x <;> exact q
    exact key (SqL.of (A.hs.ex _ _ h)) r q'.1 q'.2.1 q'.2.2
  | tup h r =>
    rename_i p vs ds
    have q' : D.ok 60 x = true ∧ D.oks 59 ds = true ∧ Q (.bl (!D.mem x ds)) M := by cases x <;> exact q
    exact semO_of (op_notInTD hu) ⟨x.py, D.pys ds, rep_py A.hs.ex rx q'.1, .tup (ex_t A.hs.ex h) (reps_py A.hs.ex r q'.2.1), D.shaped q'.1, D.shaped (oks_tup q'.2.1), by rw [any_pys]; exact A.val e .bl q'.2.2⟩
  | ptr =>
    rename_i p
    have q' : ∃ ds, M p = some (.l ds) ∧ D.ok 60 x = true ∧ D.oks 59 ds = true ∧ Q (.bl (!D.mem x ds)) M := by cases x <;> exact q
    obtain ⟨ds, h0, h1, h2, h3⟩ := q'
    obtain ⟨_, vs, h, r⟩ := A.hs.ce _ _ h0
    exact key (SqL.of h) r h1 h2 h3
  | str =>
    cases rx <;> first | exact q.elim | skip
    obtain ⟨k, rfl, q⟩ := q
    exact semO_of op_notIn_sign ⟨k, _, rfl, rfl, A.val e .bl q⟩
  | _ => cases x <;> exact q.elim

/-! ### 13. Built-ins -/
theorem de_callB {w : Wi} {Γ : Ga} {M : Mm} {Q : D → Mm → Prop} {x : Str} {id : String} {e : Expr} {es : List Expr} {p pos : Pos} {pp : PPL} {k : Nat} {n : Nm} (S : Sc X k n) (hx : x ∈ n.glb) (hm : X.mg x = none) (hv : bootBuiltins x = some (.builtin id)) (hp : CD X (.builtin id) pp)
    (he : starEach (e :: es) X.env = (false, eval e X.env) :: starEach es X.env) (hpl : (backTo pos (starEach es X.env)).any (·.1) = false) (h : DA X w (e :: es) Γ M fun ds M1 => pp ds M1 Q) : DE X w (.Call (.Name x p) (e :: es) [] pos) Γ M Q := .mk fun F σ H Hb A =>
  semE_of (pe_callB semC_ok (S.gl x hx).1 hm hv semA_ok (okN_n (S.gl x hx).2) (okN_d (S.gl x hx).2) he hpl) (semA_mono (h.run F σ H Hb A) fun vs H1 ⟨Hb1, ds, M1, e1, A1, r1, q1⟩ => hp w F Hb Hb1 H1 σ Γ M1 vs ds Q A1 e1 r1 q1)
theorem de_callT {w : Wi} {Γ : Ga} {M : Mm} {Q : D → Mm → Prop} {x : Str} {id : String} {e : Expr} {es : List Expr} {p pos : Pos} {pp : PPL} {k : Nat} {n : Nm} (S : Sc X k n) (hx : x ∈ n.glb) (hm : X.mg x = none) (hv : bootBuiltins x = some (.type id)) (hp : CD X (.type id) pp)
    (he : starEach (e :: es) X.env = (false, eval e X.env) :: starEach es X.env) (hpl : (backTo pos (starEach es X.env)).any (·.1) = false) (h : DA X w (e :: es) Γ M fun ds M1 => pp ds M1 Q) : DE X w (.Call (.Name x p) (e :: es) [] pos) Γ M Q := .mk fun F σ H Hb A =>
  semE_of (pe_callTy semC_ok (S.gl x hx).1 hm hv semA_ok (okN_n (S.gl x hx).2) (okN_d (S.gl x hx).2) he hpl) (semA_mono (h.run F σ H Hb A) fun vs H1 ⟨Hb1, ds, M1, e1, A1, r1, q1⟩ => hp w F Hb Hb1 H1 σ Γ M1 vs ds Q A1 e1 r1 q1)
/-- an argument alone -/
def one (pp : PP1) : PPL := fun ds M Q => match ds with
  | [d] => pp d M Q
  | _ => False
theorem CD.one {f} {pp : PP1} (h : ∀ (w : Wi) (F H0 Hb H : Hp) (σ : St) (Γ : Ga) (M : Mm) (v : V) (x : D) (Q : D → Mm → Prop), At X w F Hb H σ Γ M → Ex H0 Hb → Rep X.K X.mg Hb v x → pp x M Q → semC X f [v] H (PostE X w F H0 σ Γ Q)) : CD X f (one pp) := fun w F H0 Hb H σ Γ M vs xs Q A e rs q => by
  cases rs with
  | nil => exact q.elim
  | cons r t =>
    cases t with
    | nil => exact h w F H0 Hb H σ Γ M _ _ Q A e r q
    | cons _ _ => exact q.elim
def pLen : PP1
  | .lst ds, M, Q => Q (.int ds.length) M
  | .tup ds, M, Q => Q (.int ds.length) M
  | .str s, M, Q => s.length ≤ sizeLine ∧ Q (.int s.length) M
  | .ptr p, M, Q => ∃ ds, M p = some (.l ds) ∧ Q (.int ds.length) M
  | _, _, _ => False
theorem cd_len : CD X (.builtin "len") (one pLen) := .one fun w F H0 Hb H σ Γ M v x Q A e r q => by
  cases r with
  | lst h r => exact semC_of call_len_seq ⟨_, _, rfl, .inl (SqL.of (A.hs.ex _ _ h)), by rw [r.length]; exact A.val e .int q⟩
  | tup h r => exact semC_of call_len_seq ⟨_, _, rfl, .inr (ex_t A.hs.ex h), by rw [r.length]; exact A.val e .int q⟩
  | str => exact semC_of call_len_str ⟨_, rfl, q.1, A.val e .int q.2⟩
  | ptr =>
    obtain ⟨ds, h0, q⟩ := q
    obtain ⟨_, vs, h, r⟩ := A.hs.ce _ _ h0
    exact semC_of call_len_seq ⟨_, _, rfl, .inl (SqL.of h), by rw [r.length]; exact A.val e .int q⟩
  | _ => exact q.elim
/-- the items of a sequence, a cell's too -/
def D.seqM (M : Mm) : D → Option (List D)
  | .lst ds => some ds
  | .tup ds => some ds
  | .ptr p => match M p with
    | some (.l ds) => some ds
    | _ => none
  | _ => none
theorem rep_seqM {F Hb H : Hp} {w : Wi} {σ : St} {Γ : Ga} {M : Mm} {v : V} {d : D} {ds : List D} (A : At X w F Hb H σ Γ M) (r : Rep X.K X.mg Hb v d) (h : d.seqM M = some ds) : ∃ p vs, v = .ref p ∧ (SqL X.K H p vs ∨ SqT X.K H p vs) ∧ Reps X.K X.mg Hb vs ds := by
  cases r with
  | tup h1 h2 => cases h; exact ⟨_, _, rfl, .inr (ex_t A.hs.ex h1), h2⟩
  | lst h1 h2 => cases h; exact ⟨_, _, rfl, .inl (SqL.of (A.hs.ex _ _ h1)), h2⟩
  | ptr =>
    rename_i p
    have h : (match M p with | some (.l ds) => some ds | _ => none) = some ds := h
    cases e : M p with
    | none => rw [e] at h; cases h
    | some c =>
      rw [e] at h
      cases c with
      | l xs =>
        cases h
        obtain ⟨_, vs, h1, h2⟩ := A.hs.ce _ _ e
        exact ⟨_, vs, rfl, .inl (SqL.of h1), h2⟩
      | _ => cases h
  | _ => cases h
theorem cd_list : CD X (.type "list") (one fun d M Q => ∃ ds, d.seqM M = some ds ∧ Q (.lst ds) M) := .one fun w F H0 Hb H σ Γ M v x Q A e r ⟨ds, h, q⟩ => by
  obtain ⟨p, vs, rfl, h1, h2⟩ := rep_seqM A r h
  exact semC_of call_list_of ⟨_, _, rfl, h1, fun l hl => A.lst e h2 hl q⟩
theorem cd_tuple : CD X (.type "tuple") (one fun d M Q => ∃ ds, d.seqM M = some ds ∧ Q (.tup ds) M) := .one fun w F H0 Hb H σ Γ M v x Q A e r ⟨ds, h, q⟩ => by
  cases r with
  | tup h3 h4 => cases h; exact semC_of call_tuple_of ⟨_, _, rfl, .inr ⟨ex_t A.hs.ex h3, A.val e (.tup h3 h4) q⟩⟩
  | lst h3 h4 => cases h; exact semC_of call_tuple_of ⟨_, _, rfl, .inl ⟨SqL.of (A.hs.ex _ _ h3), fun l hl => A.tup e h4 hl q⟩⟩
  | @ptr p =>
    have h : (match M p with | some (.l ds) => some ds | _ => none) = some ds := h
    cases z : M p with
    | none => rw [z] at h; cases h
    | some c =>
      rw [z] at h
      cases c with
      | l xs =>
        cases h
        obtain ⟨_, vs, h1, h2⟩ := A.hs.ce _ _ z
        exact semC_of call_tuple_of ⟨_, _, rfl, .inl ⟨SqL.of h1, fun l hl => A.tup e h2 hl q⟩⟩
      | _ => cases h
  | _ => cases h
/-- int(x), str(x), abs(x) -/
def pInt : PP1
  | .int i, M, Q => Q (.int i) M
  | .bl b, M, Q => Q (.int (if b then 1 else 0)) M
  | _, _, _ => False
theorem cd_int : CD X (.type "int") (one pInt) := .one fun w F H0 Hb H σ Γ M v x Q A e r q => by
  cases r with
  | int => exact semC_of call_int1 (.inl ⟨_, rfl, A.val e .int q⟩)
  | bl => exact semC_of call_int1 (.inr ⟨_, rfl, A.val e .int q⟩)
  | _ => exact q.elim
def pStr : PP1
  | .int i, M, Q => i.natAbs.log2 < 1920 ∧ Q (.str (toString i)) M
  | _, _, _ => False
theorem cd_strI : CD X (.type "str") (one pStr) := .one fun w F H0 Hb H σ Γ M v x Q A e r q => by
  cases r with
  | int => exact semC_of call_str_int ⟨_, rfl, q.1, A.val e .str q.2⟩
  | _ => exact q.elim
def pAbs : PP1
  | .int i, M, Q => Q (.int (if i < 0 then -i else i)) M
  | _, _, _ => False
theorem cd_abs : CD X (.builtin "abs") (one pAbs) := .one fun w F H0 Hb H σ Γ M v x Q A e r q => by
  cases r with
  | int => exact semC_of call_abs ⟨_, rfl, A.val e .int q⟩
  | _ => exact q.elim
theorem reps_bls {K : PySem.W.Frag} {mg : Str → Option Value} {Hb : Hp} : ∀ {bs : List Bool} {vs : List V}, Reps K mg Hb vs (bs.map D.bl) → vs = bs.map V.bl
  | [], _, .nil => rfl
  | b :: bs, _, .cons r t => by cases r; rw [List.map_cons, reps_bls t]
theorem reps_ints {K : PySem.W.Frag} {mg : Str → Option Value} {Hb : Hp} : ∀ {bs : List Int} {vs : List V}, Reps K mg Hb vs (bs.map D.int) → vs = bs.map V.int
  | [], _, .nil => rfl
  | b :: bs, _, .cons r t => by cases r; rw [List.map_cons, reps_ints t]
theorem reps_strs {K : PySem.W.Frag} {mg : Str → Option Value} {Hb : Hp} : ∀ {bs : List Str} {vs : List V}, Reps K mg Hb vs (bs.map D.str) → vs = bs.map V.str
  | [], _, .nil => rfl
  | b :: bs, _, .cons r t => by cases r; rw [List.map_cons, reps_strs t]
theorem of_ints {K : PySem.W.Frag} {mg : Str → Option Value} {Hb : Hp} : ∀ {bs : List Int}, Reps K mg Hb (bs.map V.int) (bs.map D.int)
  | [] => .nil
  | b :: bs => .cons .int of_ints
theorem of_strs {K : PySem.W.Frag} {mg : Str → Option Value} {Hb : Hp} : ∀ {bs : List Str}, Reps K mg Hb (bs.map V.str) (bs.map D.str)
  | [] => .nil
  | b :: bs => .cons .str of_strs
theorem cd_all (hc : X.calm = true) : CD X (.builtin "all") (one fun d M Q => ∃ bs : List Bool, d = .lst (bs.map .bl) ∧ Q (.bl (bs.all id)) M) := .one fun w F H0 Hb H σ Γ M v x Q A e r ⟨bs, h, q⟩ => by
  subst h
  cases r with
  | lst h r => have := reps_bls r; subst this; exact semC_of (cr_all hc) ⟨_, bs, rfl, SqL.of (A.hs.ex _ _ h), A.val e .bl q⟩
theorem cd_any (hc : X.calm = true) : CD X (.builtin "any") (one fun d M Q => ∃ bs : List Bool, d = .lst (bs.map .bl) ∧ Q (.bl (bs.any id)) M) := .one fun w F H0 Hb H σ Γ M v x Q A e r ⟨bs, h, q⟩ => by
  subst h
  cases r with
  | lst h r => have := reps_bls r; subst this; exact semC_of (cr_any hc) ⟨_, bs, rfl, SqL.of (A.hs.ex _ _ h), A.val e .bl q⟩
end
end L3
namespace L3
open PySem PySem.Spec PyProof.Rows L2
section
variable {X : Cx} {w : Wi} {Γ Γ' : Ga} {M : Mm} {Q : D → Mm → Prop} {QT : Bool → Mm → Prop} {x : Str} {i : Nat} {d : D} {a b c e tg : Expr} {es rest' : List Expr} {pos : Pos} {k : Nat} {n : Nm} {P : Po} {st : Stmt} {sts rest : List Stmt}

/-! ### 14. Blocks and statements -/
theorem ds_nil (q : P.nx Γ M) : DS X w [] Γ M P := .mk fun F σ H Hb A => semB_of pss_nil ⟨Hb, Γ, M, Ex.refl _, A, q⟩
/-- a statement ahead of the rest, by its reading -/
theorem ds_seq {t : TS} (hs : PS X st t) {F σ H Hb} (h : t { nx := fun σ' H' => semB X rest (EndsOf X w F Hb P) σ' H', rt := PostR X F Hb P.rt, bk := PostN X w F Hb P.bk, ct := PostN X w F Hb P.ct } σ H) : semB X (st :: rest) (EndsOf X w F Hb P) σ H :=
  semB_of (pss_cons hs semB_ok) h
/-- the wish of the rest -/
def Po.then (P : Po) (X : Cx) (w : Wi) (rest : List Stmt) : Po := { P with nx := fun Γ' M' => DS X w rest Γ' M' P }
theorem ends_then {F Hb : Hp} {σ : St} {H : Hp} (h : semB X sts (EndsOf X w F Hb (P.then X w rest)) σ H) :
    semB X sts { nx := fun σ' H' => semB X rest (EndsOf X w F Hb P) σ' H', rt := PostR X F Hb P.rt, bk := PostN X w F Hb P.bk, ct := PostN X w F Hb P.ct } σ H :=
  semB_mono h (fun σ' H' ⟨Hb', Γ', M', e', A', q⟩ => semB_back e' (q.run F σ' H' Hb' A')) (fun _ _ q => q) (fun _ _ q => q) (fun _ _ q => q)
theorem ds_expr (hs : swapsWith e none pos.line X.env = pure false) (h : DE X w e Γ M fun _ M1 => DS X w rest Γ M1 P) : DS X w (.Expr e pos :: rest) Γ M P := .mk fun F σ H Hb A =>
  ds_seq (ps_expr semE_ok hs) (semE_mono (h.run F σ H Hb A) fun v H1 ⟨Hb1, d, M1, e1, A1, r1, q⟩ => semB_back e1 (q.run F σ H1 Hb1 A1))
theorem ds_pass (h : DS X w rest Γ M P) : DS X w (.Pass pos :: rest) Γ M P := .mk fun F σ H Hb A => ds_seq ps_pass (h.run F σ H Hb A)
theorem ds_ret (h : DE X w e Γ M P.rt) : DS X w (.Return (some e) pos :: rest) Γ M P := .mk fun F σ H Hb A =>
  ds_seq (ps_ret semE_ok) (semE_mono (h.run F σ H Hb A) fun v H1 ⟨Hb1, d, M1, e1, A1, r1, q⟩ => ⟨Hb1, d, M1, e1, A1.hs, r1, q⟩)
theorem ds_retN (h : P.rt .non M) : DS X w (.Return none pos :: rest) Γ M P := .mk fun F σ H Hb A => ds_seq ps_retN ⟨Hb, .non, M, Ex.refl _, A.hs, .non, h⟩
theorem ds_break (h : P.bk Γ M) : DS X w (.Break pos :: rest) Γ M P := .mk fun F σ H Hb A => ds_seq ps_break ⟨Hb, Γ, M, Ex.refl _, A, h⟩
theorem ds_cont (h : P.ct Γ M) : DS X w (.Continue pos :: rest) Γ M P := .mk fun F σ H Hb A => ds_seq ps_continue ⟨Hb, Γ, M, Ex.refl _, A, h⟩
theorem ds_if {A B : List Stmt} (h : DT X w c Γ M fun t M1 => (t = true → DS X w A Γ M1 (P.then X w rest)) ∧ (t = false → DS X w B Γ M1 (P.then X w rest))) : DS X w (.If c A B pos :: rest) Γ M P := .mk fun F σ H Hb A' => by
  refine ds_seq (ps_if semT_ok semB_ok semB_ok) (semT_mono (h.run F σ H Hb A') fun t H1 ⟨Hb1, M1, e1, A1, q1, q2⟩ => ?_)
  cases t with
  | true => rw [if_pos rfl]; exact ends_then (semB_back e1 ((q1 rfl).run F σ H1 Hb1 A1))
  | false => rw [if_neg Bool.false_ne_true]; exact ends_then (semB_back e1 ((q2 rfl).run F σ H1 Hb1 A1))
theorem ds_imp {P' : Po} (h : DS X w sts Γ M P) (h1 : ∀ Γ' M', P.nx Γ' M' → P'.nx Γ' M') (h2 : ∀ d M', P.rt d M' → P'.rt d M') (h3 : ∀ Γ' M', P.bk Γ' M' → P'.bk Γ' M') (h4 : ∀ Γ' M', P.ct Γ' M' → P'.ct Γ' M') : DS X w sts Γ M P' := .mk fun F σ H Hb A =>
  semB_mono (h.run F σ H Hb A) (fun _ _ ⟨a, b, c, d, e, q⟩ => ⟨a, b, c, d, e, h1 _ _ q⟩) (fun _ _ ⟨a, b, c, d, e, f, q⟩ => ⟨a, b, c, d, e, f, h2 _ _ q⟩) (fun _ _ ⟨a, b, c, d, e, q⟩ => ⟨a, b, c, d, e, h3 _ _ q⟩) (fun _ _ ⟨a, b, c, d, e, q⟩ => ⟨a, b, c, d, e, h4 _ _ q⟩)
/-- an if whose ways meet again at I -/
theorem ds_ifI {A B : List Stmt} (I : Ga → Mm → Prop) (h : DT X w c Γ M fun t M1 => (t = true → DS X w A Γ M1 { P with nx := I }) ∧ (t = false → DS X w B Γ M1 { P with nx := I })) (hr : ∀ Γ' M', I Γ' M' → DS X w rest Γ' M' P) : DS X w (.If c A B pos :: rest) Γ M P :=
  ds_if (dt_imp h fun t M1 ⟨h1, h2⟩ => ⟨fun e => ds_imp (h1 e) hr (fun _ _ q => q) (fun _ _ q => q) (fun _ _ q => q), fun e => ds_imp (h2 e) hr (fun _ _ q => q) (fun _ _ q => q) (fun _ _ q => q)⟩)
/-! ### 15. Targets -/
theorem dg_name (S : Sc X k n) (hp : Put Γ x d Γ' i) (hx : x ∈ n.locs) {Q : Ga → Mm → Prop} (q : Q Γ' M) : DG X w (.Name x pos) d Γ M Q := .mk fun F σ H Hb v A r => by
  obtain ⟨o, ho⟩ := hp.mem.2.1
  exact semG_of (pg_name S.nd (A.sl.nm _ ho).1 (S.loc x hx).1 (S.loc x hx).2) ⟨Hb, Γ', M, Ex.refl _, A.put hp r, q⟩
end
def semGs (X : Cx) (ts : List Expr) : TGs := fun vs σ H Q => ∀ pins s us, Inv X pins σ H s → Vals vs us → wpAny (model X.prog X.w) X.A (assignInOrder ((assignEach ts X.env).map (·.2)) us) (fun _ s' => ∃ σ' H', Inv X pins σ' H' s' ∧ Q σ' H') X.xe s
/-- what a target does, beside the data: the slots but those of vs stay -/
def PostV (X : Cx) (w : Wi) (vs : List Nat) (F Hb : Hp) (σ : St) (Q : Ga → Mm → Prop) : St → Hp → Prop := fun σ' H' => wipe σ' vs = wipe σ vs ∧ PostN X w F Hb Q σ' H'
structure DGV (X : Cx) (w : Wi) (vs : List Nat) (tg : Expr) (d : D) (Γ : Ga) (M : Mm) (Q : Ga → Mm → Prop) : Prop where
  run : ∀ F σ H Hb v, At X w F Hb H σ Γ M → Rep X.K X.mg Hb v d → semG X tg v σ H (PostV X w vs F Hb σ Q)
structure DGs (X : Cx) (w : Wi) (vs : List Nat) (ts : List Expr) (ds : List D) (Γ : Ga) (M : Mm) (Q : Ga → Mm → Prop) : Prop where
  run : ∀ F σ H Hb us, At X w F Hb H σ Γ M → Reps X.K X.mg Hb us ds → semGs X ts us σ H (PostV X w vs F Hb σ Q)
theorem wipe_set (σ : St) (x : Option V) : ∀ {vs : List Nat} {i : Nat}, i ∈ vs → wipe (σ.set i x) vs = wipe σ vs
  | v :: vs, i, h => by
    by_cases e : i = v
    · subst e
      unfold wipe
      by_cases h' : i ∈ vs
      · rw [wipe_set σ x h']
      · have key : ∀ (σ : St) (vs : List Nat), i ∉ vs → wipe (σ.set i x) vs = (wipe σ vs).set i x := fun σ vs => by
          induction vs with
          | nil => intro _; rfl
          | cons u vs ih =>
            intro h2
            simp only [List.mem_cons, not_or] at h2
            unfold wipe
            rw [ih h2.2, List.set_comm _ _ h2.1]
        rw [key σ vs h', List.set_set]
    · rcases List.mem_cons.mp h with h' | h'
      · exact absurd h' e
      · unfold wipe; rw [wipe_set σ x h']
section
variable {X : Cx} {w : Wi} {Γ Γ' : Ga} {M : Mm} {Q : D → Mm → Prop} {QT : Bool → Mm → Prop} {x : Str} {i : Nat} {d : D} {a b c e tg : Expr} {es rest' : List Expr} {pos : Pos} {k : Nat} {n : Nm} {P : Po} {st : Stmt} {sts rest : List Stmt} {vs : List Nat} {QG : Ga → Mm → Prop}
theorem semGs_ok {ts : List Expr} : PGs X ts (semGs X ts) := ⟨fun pins s σ H vs us Q I r h => h pins s us I r⟩
theorem semGs_of {ts : List Expr} {t : TGs} (h : PGs X ts t) {us : List V} {σ : St} {H : Hp} {Q : St → Hp → Prop} (q : t us σ H Q) : semGs X ts us σ H Q := fun pins s ws I r => h.run pins s σ H us ws Q I r q
theorem semGs_mono {ts : List Expr} {us : List V} {σ : St} {H : Hp} {Q Q' : St → Hp → Prop} (h : semGs X ts us σ H Q) (hq : ∀ v H', Q v H' → Q' v H') : semGs X ts us σ H Q' := fun pins s u I r =>
  thn (h pins s u I r) fun _ _ ⟨σ', H', I', q⟩ => ⟨σ', H', I', hq σ' H' q⟩
theorem PostN.slots {F Hb : Hp} {σ : St} {H : Hp} (h : PostN X w F Hb QG σ H) : ∃ Γ' M', QG Γ' M' := by obtain ⟨_, Γ', M', _, _, q⟩ := h; exact ⟨Γ', M', q⟩
theorem dgv_name (S : Sc X k n) (hp : Put Γ x d Γ' i) (hx : x ∈ n.locs) (hv : i ∈ vs) (q : QG Γ' M) : DGV X w vs (.Name x pos) d Γ M QG := .mk fun F σ H Hb v A r => by
  obtain ⟨o, ho⟩ := hp.mem.2.1
  exact semG_of (pg_name S.nd (A.sl.nm _ ho).1 (S.loc x hx).1 (S.loc x hx).2) ⟨wipe_set σ _ hv, Hb, Γ', M, Ex.refl _, A.put hp r, q⟩
theorem dg_dgv (h : DGV X w vs tg d Γ M QG) : DG X w tg d Γ M QG := .mk fun F σ H Hb v A r => semG_mono (h.run F σ H Hb v A r) fun _ _ q => q.2
theorem dgs_nil (q : QG Γ M) : DGs X w vs [] [] Γ M QG := .mk fun F σ H Hb us A r => by
  cases r
  exact semGs_of pgs_nil ⟨rfl, rfl, Hb, Γ, M, Ex.refl _, A, q⟩
theorem dgs_cons {ds : List D} (hs : (assignEach (e :: es) X.env).map (·.2) = assign e X.env :: (assignEach es X.env).map (·.2)) (h : DGV X w vs e d Γ M fun Γ1 M1 => DGs X w vs es ds Γ1 M1 QG) : DGs X w vs (e :: es) (d :: ds) Γ M QG := .mk fun F σ H Hb us A r => by
  cases r with
  | cons r1 r2 =>
    refine semGs_of (pgs_cons semG_ok semGs_ok hs) ⟨_, _, rfl, ?_⟩
    refine semG_mono (h.run F σ H Hb _ A r1) fun σ1 H1 ⟨w1, Hb1, Γ1, M1, e1, A1, q1⟩ => ?_
    exact semGs_mono (q1.run F σ1 H1 Hb1 _ A1 (r2.mono e1)) fun σ2 H2 ⟨w2, q2⟩ => ⟨w2.trans w1, q2.back e1⟩
theorem dgv_tup {ds : List D} {kk : Nat} (S : Sc X k n) (hd : d.seq = some ds) (hn : (assignEach es X.env).length = ds.length) (hst : (assignEach es X.env).findIdx? (·.1) = none) (h : DGs X w vs es ds Γ M QG) : DGV X w vs (.Tuple es kk pos) d Γ M QG := .mk fun F σ H Hb v A r => by
  cases r with
  | tup h1 h2 => cases hd; exact semG_of (pg_tup S.calm semGs_ok rfl hst) ⟨_, _, rfl, ex_t A.hs.ex h1, by rw [h2.length]; exact hn.symm, h.run F σ H Hb _ A h2⟩
  | lst h1 h2 => cases hd; exact semG_of (pg_lst S.calm semGs_ok rfl hst) ⟨_, _, rfl, SqL.of (A.hs.ex _ _ h1), by rw [h2.length]; exact hn.symm, h.run F σ H Hb _ A h2⟩
  | _ => cases hd
/-- target = value -/
theorem ds_asg (hs : swapsWithSole [tg] e pos.line X.env = pure false) (hw : swappedStores [tg] e X.env = pure none) (h1 : (assignEach [tg] X.env).map (·.2) = [assign tg X.env])
    (h : DE X w e Γ M fun d M1 => DG X w tg d Γ M1 fun Γ2 M2 => DS X w rest Γ2 M2 P) : DS X w (.Assign [tg] e pos :: rest) Γ M P := .mk fun F σ H Hb A =>
  ds_seq (ps_asg semE_ok semG_ok hs hw h1) (semE_mono (h.run F σ H Hb A) fun v H1 ⟨Hb1, d, M1, e1, A1, r1, q⟩ =>
    semG_mono (q.run F σ H1 Hb1 v A1 r1) fun σ2 H2 ⟨Hb2, Γ2, M2, e2, A2, q2⟩ => semB_back (e1.trans e2) (q2.run F σ2 H2 Hb2 A2))
/-- name = value (not a comprehension on one line) -/
theorem ds_set {pos' : Pos} (S : Sc X k n) (hx : x ∈ n.locs) {o : Option D} (hm : (x, i, o) ∈ Γ) (hs : swapsWith e (some (.Name x pos')) pos.line X.env = pure false)
    (h : DE X w e Γ M fun d M1 => ∃ Γ', Put Γ x d Γ' i ∧ DS X w rest Γ' M1 P) : DS X w (.Assign [.Name x pos'] e pos :: rest) Γ M P := .mk fun F σ H Hb A => by
  refine ds_seq (ps_set (i := i) S.nd (A.sl.nm _ hm).1 (S.loc x hx).1 semE_ok hs (S.loc x hx).2) (semE_mono (h.run F σ H Hb A) fun v H1 ⟨Hb1, d, M1, e1, A1, r1, Γ', hp, q⟩ => ?_)
  exact semB_back e1 (q.run F _ H1 Hb1 (A1.put hp r1))
/-- a, b = x, y: two local names -/
theorem ds_par {x y : Str} {j : Nat} {px py pt : Pos} {kt k2 pt2} (S : Sc X k n) {o o' : Option D} (hx : (x, i, o) ∈ Γ) (hy : (y, j, o') ∈ Γ) (hij : i ≠ j)
    (lx : X.env.scope.names.lookup x = some .local) (ly : X.env.scope.names.lookup y = some .local)
    (hw : swappedStores [.Tuple [.Name x px, .Name y py] kt pt] (.Tuple [a, b] k2 pt2) X.env = pure (some [x, y]))
    (hs : swapsWithSole [.Tuple [.Name x px, .Name y py] kt pt] (.Tuple [a, b] k2 pt2) pos.line X.env = pure false)
    (h : DA X w [a, b] Γ M fun ds M1 => ∃ d1 d2 Γ1 Γ2, ds = [d1, d2] ∧ Put Γ x d1 Γ1 i ∧ Put Γ1 y d2 Γ2 j ∧ DS X w rest Γ2 M1 P) : DS X w (.Assign [.Tuple [.Name x px, .Name y py] kt pt] (.Tuple [a, b] k2 pt2) pos :: rest) Γ M P := .mk fun F σ H Hb A => by
  refine ds_seq (ps_par (i := i) (j := j) S.calm S.nd (A.sl.nm _ hx).1 (A.sl.nm _ hy).1 hij lx ly semA_ok hw hs) (semA_mono (h.run F σ H Hb A) fun v H1 ⟨Hb1, ds, M1, e1, A1, r1, d1, d2, Γ1, Γ2, hd, p1, p2, q⟩ => ?_)
  subst hd
  cases r1 with
  | cons r1 r2 =>
    cases r2 with
    | cons r2 r3 =>
      cases r3
      exact ⟨_, _, rfl, semB_back e1 (q.run F _ H1 Hb1 ((A1.put p1 r1).put p2 r2))⟩
theorem ds_par3 {x y z : Str} {j l : Nat} {px py pz pt : Pos} {kt k2 pt2} (S : Sc X k n) {o o' o'' : Option D} (hx : (x, i, o) ∈ Γ) (hy : (y, j, o') ∈ Γ) (hz : (z, l, o'') ∈ Γ) (hij : i ≠ j) (hil : i ≠ l) (hjl : j ≠ l)
    (lx : X.env.scope.names.lookup x = some .local) (ly : X.env.scope.names.lookup y = some .local) (lz : X.env.scope.names.lookup z = some .local)
    (hw : swappedStores [.Tuple [.Name x px, .Name y py, .Name z pz] kt pt] (.Tuple [a, b, c] k2 pt2) X.env = pure (some [x, y, z]))
    (hs : swapsWithSole [.Tuple [.Name x px, .Name y py, .Name z pz] kt pt] (.Tuple [a, b, c] k2 pt2) pos.line X.env = pure false)
    (h : DA X w [a, b, c] Γ M fun ds M1 => ∃ d1 d2 d3 Γ1 Γ2 Γ3, ds = [d1, d2, d3] ∧ Put Γ x d1 Γ1 i ∧ Put Γ1 y d2 Γ2 j ∧ Put Γ2 z d3 Γ3 l ∧ DS X w rest Γ3 M1 P) : DS X w (.Assign [.Tuple [.Name x px, .Name y py, .Name z pz] kt pt] (.Tuple [a, b, c] k2 pt2) pos :: rest) Γ M P := .mk fun F σ H Hb A => by
  refine ds_seq (ps_par3 (i := i) (j := j) (l := l) S.calm S.nd (A.sl.nm _ hx).1 (A.sl.nm _ hy).1 (A.sl.nm _ hz).1 hij hil hjl lx ly lz semA_ok hw hs) (semA_mono (h.run F σ H Hb A) fun v H1 ⟨Hb1, ds, M1, e1, A1, r1, d1, d2, d3, Γ1, Γ2, Γ3, hd, p1, p2, p3, q⟩ => ?_)
  subst hd
  cases r1 with
  | cons r1 r2 =>
    cases r2 with
    | cons r2 r3 =>
      cases r3 with
      | cons r3 r4 =>
        cases r4
        exact ⟨_, _, _, rfl, semB_back e1 (q.run F _ H1 Hb1 (((A1.put p1 r1).put p2 r2).put p3 r3))⟩

/-! ### 16. What is walked -/
/-- J walks the items ds, over the heaps that hold Hb -/
def ItD (X : Cx) (J : It) (ds : List D) (Hb : Hp) : Prop := ∀ i F Hb' H M, Ex Hb Hb' → Hs X.K X.mg F Hb' H M →
  (i < ds.length → J.go i H ∧ ∀ v H', J.yld i H v H' → ∃ Hb2 d, Ex Hb' Hb2 ∧ Hs X.K X.mg F Hb2 H' M ∧ ds[i]? = some d ∧ Rep X.K X.mg Hb2 v d) ∧ (ds.length ≤ i → J.stop i H)
end
def semIt (X : Cx) (tg iter : Expr) : TI := fun σ H R => ∀ pins s, Inv X pins σ H s → wpAny (model X.prog X.w) X.A (eval iter X.env) (fun v s1 => wpAny (model X.prog X.w) X.A (pyIter v) (PIE X pins σ tg R) X.xe s1) X.xe s
structure DI (X : Cx) (w : Wi) (tg iter : Expr) (Γ : Ga) (M : Mm) (Q : List D → Mm → Prop) : Prop where
  run : ∀ F σ H Hb, At X w F Hb H σ Γ M → semIt X tg iter σ H fun J H1 => ∃ Hb1 M1 ds, Ex Hb Hb1 ∧ At X w F Hb1 H1 σ Γ M1 ∧ ItD X J ds Hb1 ∧ Q ds M1
section
variable {X : Cx} {w : Wi} {Γ Γ' : Ga} {M : Mm} {Q : List D → Mm → Prop} {x : Str} {i : Nat} {d : D} {a b c e tg iter : Expr} {es rest' : List Expr} {pos : Pos} {k : Nat} {n : Nm} {P : Po} {st : Stmt} {sts rest : List Stmt} {vs : List Nat} {QG : Ga → Mm → Prop}
theorem semIt_ok : PI X tg iter (semIt X tg iter) := ⟨fun pins s σ H R I h => h pins s I⟩
theorem semIt_of {wi : TI} (h : PI X tg iter wi) {σ : St} {H : Hp} {R : It → Hp → Prop} (q : wi σ H R) : semIt X tg iter σ H R := fun pins s I => h.run pins s σ H R I q
theorem semIt_mono {σ : St} {H : Hp} {R R' : It → Hp → Prop} (h : semIt X tg iter σ H R) (hq : ∀ J H', R J H' → R' J H') : semIt X tg iter σ H R' := fun pins s I =>
  thn (h pins s I) fun _ _ q => thn q fun _ _ ⟨it, fp, tn, J, H', a, b, c, d, e, q⟩ => ⟨it, fp, tn, J, H', a, b, c, d, e, hq _ _ q⟩
theorem At.hsTo {F Hb Hb2 H H2 : Hp} {σ : St} {M2 : Mm} (A : At X w F Hb H σ Γ M) (e : Ex Hb Hb2) (h : Hs X.K X.mg F Hb2 H2 M2) : At X w F Hb2 H2 σ Γ M2 := ⟨A.wok, A.h0.trans e, A.f0, h, A.sl.mono e⟩
theorem itd_list {p : Addr} {us : List V} {ds : List D} {Hb : Hp} (h : Hb p = some (.lst us)) (r : Reps X.K X.mg Hb us ds) : ItD X (Itl X.K p) ds Hb := fun i F Hb' H M e hs => by
  have hq : SqL X.K H p us := SqL.of (hs.ex _ _ (e _ _ h))
  refine ⟨fun hi => ?_, fun hi => ⟨us, hq, by rw [r.length]; exact hi⟩⟩
  obtain ⟨v, h1, h2⟩ := r.get (List.getElem?_eq_getElem hi)
  refine ⟨⟨us, v, hq, h1⟩, fun v' H' ⟨e1, e2⟩ => ?_⟩
  subst e1
  have := (e2 us hq).symm.trans h1
  cases this
  exact ⟨Hb', _, Ex.refl _, hs, List.getElem?_eq_getElem hi, h2.mono e⟩
theorem itd_tup {p : Addr} {us : List V} {ds : List D} {Hb : Hp} (h : SqT X.K Hb p us) (r : Reps X.K X.mg Hb us ds) : ItD X (Itt X.K p) ds Hb := fun i F Hb' H M e hs => by
  have hq : SqT X.K H p us := ex_t hs.ex (ex_t e h)
  refine ⟨fun hi => ?_, fun hi => ⟨us, hq, by rw [r.length]; exact hi⟩⟩
  obtain ⟨v, h1, h2⟩ := r.get (List.getElem?_eq_getElem hi)
  refine ⟨⟨us, v, hq, h1⟩, fun v' H' ⟨e1, e2⟩ => ?_⟩
  subst e1
  have := (e2 us hq).symm.trans h1
  cases this
  exact ⟨Hb', _, Ex.refl _, hs, List.getElem?_eq_getElem hi, h2.mono e⟩
/-- the numbers lo, lo + 1, .. -/
def rngD (lo : Int) (n : Nat) : List D := (List.range n).map fun (i : Nat) => D.int (lo + (i : Int))
theorem itd_rng {lo : Int} {n : Nat} {Hb : Hp} : ItD X (Itr lo n) (rngD lo n) Hb := fun i F Hb' H M e hs => by
  have l : (rngD lo n).length = n := by unfold rngD; simp
  rw [l]
  refine ⟨fun hi => ⟨hi, fun v' H' ⟨e1, e2⟩ => ?_⟩, fun hi => hi⟩
  subst e1 e2
  exact ⟨Hb', .int (lo + i), Ex.refl _, hs, by unfold rngD; simp [hi], .int⟩
/-- over a list, a tuple -/
theorem di_list (h : DE X w iter Γ M fun d M1 => ∃ ds, d = .lst ds ∧ Q ds M1) : DI X w tg iter Γ M Q := .mk fun F σ H Hb A =>
  semIt_of (pi_list semE_ok) (semE_mono (h.run F σ H Hb A) fun v H1 ⟨Hb1, d, M1, e1, A1, r1, ds, hd, q⟩ => by
    subst hd
    cases r1 with
    | lst h1 h2 => exact ⟨_, rfl, ⟨_, SqL.of (A1.hs.ex _ _ h1)⟩, Hb1, M1, ds, e1, A1, itd_list h1 h2, q⟩)
theorem di_tup (h : DE X w iter Γ M fun d M1 => ∃ ds, d = .tup ds ∧ Q ds M1) : DI X w tg iter Γ M Q := .mk fun F σ H Hb A =>
  semIt_of (pi_tup semE_ok) (semE_mono (h.run F σ H Hb A) fun v H1 ⟨Hb1, d, M1, e1, A1, r1, ds, hd, q⟩ => by
    subst hd
    cases r1 with
    | tup h1 h2 => exact ⟨_, rfl, ⟨_, ex_t A1.hs.ex h1⟩, Hb1, M1, ds, e1, A1, itd_tup h1 h2, q⟩)
theorem di_range1 {p : Pos} (S : Sc X k n) (hx : ("range" : Str) ∈ n.glb) (hm : X.mg "range" = none) (hs : starEach [a] X.env = [(false, eval a X.env)]) (h : DA X w [a] Γ M fun ds M1 => ∃ n : Int, ds = [.int n] ∧ -(2 ^ 62) ≤ n ∧ n < 2 ^ 62 ∧ Q (rngD 0 n.toNat) M1) : DI X w tg (.Call (.Name "range" p) [a] [] pos) Γ M Q := .mk fun F σ H Hb A =>
  semIt_of (pi_range1 (S.gl _ hx).1 hm semA_ok hs) (semA_mono (h.run F σ H Hb A) fun v H1 ⟨Hb1, d, M1, e1, A1, r1, n, hd, q1, q2, q⟩ => by
    subst hd
    cases r1 with
    | cons r1 r2 => cases r2; cases r1; exact ⟨n, rfl, q1, q2, Hb1, M1, _, e1, A1, itd_rng, q⟩)
theorem di_range2 {p : Pos} (S : Sc X k n) (hx : ("range" : Str) ∈ n.glb) (hm : X.mg "range" = none) (hs : starEach [a, b] X.env = [(false, eval a X.env), (false, eval b X.env)]) (hs2 : starEach [b] X.env = [(false, eval b X.env)])
    (h : DA X w [a, b] Γ M fun ds M1 => ∃ m n : Int, ds = [.int m, .int n] ∧ (-(2 ^ 62) ≤ m ∧ m < 2 ^ 62 ∧ -(2 ^ 62) ≤ n ∧ n < 2 ^ 62) ∧ Q (rngD m (n - m).toNat) M1) : DI X w tg (.Call (.Name "range" p) [a, b] [] pos) Γ M Q := .mk fun F σ H Hb A =>
  semIt_of (pi_range2 (S.gl _ hx).1 hm semA_ok hs hs2) (semA_mono (h.run F σ H Hb A) fun v H1 ⟨Hb1, d, M1, e1, A1, r1, m, n, hd, q1, q⟩ => by
    subst hd
    cases r1 with
    | cons r1 r2 =>
      cases r2 with
      | cons r2 r3 => cases r3; cases r1; cases r2; exact ⟨m, n, rfl, q1, Hb1, M1, _, e1, A1, itd_rng, q⟩)
end
end L3
namespace L3
open PySem PySem.Spec PyProof.Rows L2
section
variable {X : Cx} {w : Wi} {Γ Γ' : Ga} {M : Mm} {Q : List D → Mm → Prop} {x : Str} {i : Nat} {d : D} {a b c e tg iter elt : Expr} {es rest' : List Expr} {pos : Pos} {k : Nat} {n : Nm} {P : Po} {st : Stmt} {sts rest : List Stmt} {vs : List Nat} {QG : Ga → Mm → Prop}

/-! ### zip, enumerate -/
def zipD (xs ys : List D) : List D := List.zipWith (fun x y => .tup [x, y]) xs ys
theorem zipD_get {xs ys : List D} {i : Nat} (h1 : i < xs.length) (h2 : i < ys.length) : (zipD xs ys)[i]? = some (.tup [xs[i], ys[i]]) := by
  unfold zipD
  rw [List.getElem?_zipWith, List.getElem?_eq_getElem h1, List.getElem?_eq_getElem h2]
theorem zipD_length (xs ys : List D) : (zipD xs ys).length = min xs.length ys.length := by unfold zipD; simp
theorem itd_zip {p q : Addr} {us ws : List V} {xs ys : List D} {Hb : Hp} (h : Hb p = some (.lst us)) (r : Reps X.K X.mg Hb us xs) (h' : Hb q = some (.lst ws)) (r' : Reps X.K X.mg Hb ws ys) : ItD X (Itz X.K p q) (zipD xs ys) Hb := fun i F Hb' H M e hs => by
  have hq : SqL X.K H p us := SqL.of (hs.ex _ _ (e _ _ h))
  have hq' : SqL X.K H q ws := SqL.of (hs.ex _ _ (e _ _ h'))
  rw [zipD_length]
  refine ⟨fun hi => ?_, fun hi => ⟨us, ws, hq, hq', by rw [r.length, r'.length]; omega⟩⟩
  have i1 : i < xs.length := by omega
  have i2 : i < ys.length := by omega
  obtain ⟨v, h1, h2⟩ := r.get (List.getElem?_eq_getElem i1)
  obtain ⟨v', h1', h2'⟩ := r'.get (List.getElem?_eq_getElem i2)
  refine ⟨⟨us, ws, v, v', hq, hq', h1, h1'⟩, fun u H' ⟨T, x, y, e1, e2, e3, e4, e5⟩ => ?_⟩
  subst e1 e3
  have z1 := (e4 us hq).symm.trans h1
  have z2 := (e5 ws hq').symm.trans h1'
  cases z1; cases z2
  have ex := Ex.new (o := .tup [v, v']) (hs.ex.free e2)
  exact ⟨_, _, ex, hs.new e2 _, zipD_get i1 i2, .tup (SqT.of upd_same) (.cons ((h2.mono e).mono ex) (.cons ((h2'.mono e).mono ex) .nil))⟩
theorem itd_zipT {p q : Addr} {us ws : List V} {xs ys : List D} {Hb : Hp} (h : SqT X.K Hb p us) (r : Reps X.K X.mg Hb us xs) (h' : SqT X.K Hb q ws) (r' : Reps X.K X.mg Hb ws ys) : ItD X (RZ.ItzT X.K p q) (zipD xs ys) Hb := fun i F Hb' H M e hs => by
  have hq : SqT X.K H p us := ex_t hs.ex (ex_t e h)
  have hq' : SqT X.K H q ws := ex_t hs.ex (ex_t e h')
  rw [zipD_length]
  refine ⟨fun hi => ?_, fun hi => ⟨us, ws, hq, hq', by rw [r.length, r'.length]; omega⟩⟩
  have i1 : i < xs.length := by omega
  have i2 : i < ys.length := by omega
  obtain ⟨v, h1, h2⟩ := r.get (List.getElem?_eq_getElem i1)
  obtain ⟨v', h1', h2'⟩ := r'.get (List.getElem?_eq_getElem i2)
  refine ⟨⟨us, ws, v, v', hq, hq', h1, h1'⟩, fun u H' ⟨T, x, y, e1, e2, e3, e4, e5⟩ => ?_⟩
  subst e1 e3
  have z1 := (e4 us hq).symm.trans h1
  have z2 := (e5 ws hq').symm.trans h1'
  cases z1; cases z2
  have ex := Ex.new (o := .tup [v, v']) (hs.ex.free e2)
  exact ⟨_, _, ex, hs.new e2 _, zipD_get i1 i2, .tup (SqT.of upd_same) (.cons ((h2.mono e).mono ex) (.cons ((h2'.mono e).mono ex) .nil))⟩
def enumD : Nat → List D → List D
  | _, [] => []
  | n, d :: ds => .tup [.int (n : Int), d] :: enumD (n + 1) ds
theorem enumD_length : ∀ (n : Nat) (ds : List D), (enumD n ds).length = ds.length
  | _, [] => rfl
  | n, d :: ds => congrArg (· + 1) (enumD_length (n + 1) ds)
theorem enumD_get : ∀ {n : Nat} {ds : List D} {i : Nat} {d : D}, ds[i]? = some d → (enumD n ds)[i]? = some (.tup [.int ((n + i : Nat) : Int), d])
  | n, d :: ds, 0, d', h => by simp at h; subst h; rfl
  | n, d :: ds, i + 1, d', h => by
    have := enumD_get (n := n + 1) (ds := ds) (i := i) (d := d') (by simpa using h)
    rw [show n + (i + 1) = n + 1 + i by omega]
    simpa [enumD] using this
theorem itd_enum {p : Addr} {us : List V} {xs : List D} {Hb : Hp} (h : Hb p = some (.lst us)) (r : Reps X.K X.mg Hb us xs) : ItD X (Ite X.K p) (enumD 0 xs) Hb := fun i F Hb' H M e hs => by
  have hq : SqL X.K H p us := SqL.of (hs.ex _ _ (e _ _ h))
  rw [enumD_length]
  refine ⟨fun hi => ?_, fun hi => ⟨us, hq, by rw [r.length]; omega⟩⟩
  obtain ⟨v, h1, h2⟩ := r.get (List.getElem?_eq_getElem hi)
  refine ⟨⟨us, v, hq, h1⟩, fun u H' ⟨T, x, e1, e2, e3, e4⟩ => ?_⟩
  subst e1 e3
  have z1 := (e4 us hq).symm.trans h1
  cases z1
  have ex := Ex.new (o := .tup [.int (i : Nat), v]) (hs.ex.free e2)
  refine ⟨_, _, ex, hs.new e2 _, enumD_get (List.getElem?_eq_getElem hi), ?_⟩
  rw [Nat.zero_add]
  exact .tup (SqT.of upd_same) (.cons .int (.cons ((h2.mono e).mono ex) .nil))
theorem di_zip {p tpos : Pos} {elts : List Expr} {kk : Nat} (S : Sc X k n) (hx : ("zip" : Str) ∈ n.glb) (hm : X.mg "zip" = none) (hs : starEach [a, b] X.env = (false, eval a X.env) :: starEach [b] X.env) (hpl : (backTo pos (starEach [b] X.env)).any (·.1) = false)
    (h : DA X w [a, b] Γ M fun ds M1 => ∃ xs ys, (ds = [.lst xs, .lst ys] ∨ ds = [.tup xs, .tup ys]) ∧ Q (zipD xs ys) M1) : DI X w (.Tuple elts kk tpos) (.Call (.Name "zip" p) [a, b] [] pos) Γ M Q := .mk fun F σ H Hb A =>
  semIt_of (RZ.pi_zipA (S.gl _ hx).1 hm semA_ok hs hpl) (semA_mono (h.run F σ H Hb A) fun v H1 ⟨Hb1, d, M1, e1, A1, r1, xs, ys, hd, q⟩ => by
    rcases hd with hd | hd
    · subst hd
      cases r1 with
      | cons r1 r2 =>
        cases r2 with
        | cons r2 r3 =>
          cases r3
          cases r1 with
          | lst h1 t1 =>
            cases r2 with
            | lst h2 t2 => exact ⟨_, _, _, _, rfl, .inl ⟨SqL.of (A1.hs.ex _ _ h1), SqL.of (A1.hs.ex _ _ h2), Hb1, M1, _, e1, A1, itd_zip h1 t1 h2 t2, q⟩⟩
    · subst hd
      cases r1 with
      | cons r1 r2 =>
        cases r2 with
        | cons r2 r3 =>
          cases r3
          cases r1 with
          | tup h1 t1 =>
            cases r2 with
            | tup h2 t2 => exact ⟨_, _, _, _, rfl, .inr ⟨ex_t A1.hs.ex h1, ex_t A1.hs.ex h2, Hb1, M1, _, e1, A1, itd_zipT h1 t1 h2 t2, q⟩⟩)
theorem di_enum {p tpos : Pos} {elts : List Expr} {kk : Nat} (S : Sc X k n) (hx : ("enumerate" : Str) ∈ n.glb) (hm : X.mg "enumerate" = none) (hs : starEach [a] X.env = [(false, eval a X.env)])
    (h : DE X w a Γ M fun d M1 => ∃ xs, d = .lst xs ∧ Q (enumD 0 xs) M1) : DI X w (.Tuple elts kk tpos) (.Call (.Name "enumerate" p) [a] [] pos) Γ M Q := .mk fun F σ H Hb A => by
  have ha : DA X w [a] Γ M fun ds M1 => ∃ xs, ds = [.lst xs] ∧ Q (enumD 0 xs) M1 := da_cons hs (de_imp h fun d M1 ⟨xs, e, q⟩ => da_nil ⟨xs, by rw [e], q⟩)
  refine semIt_of (pi_enum (S.gl _ hx).1 hm semA_ok hs) (semA_mono (ha.run F σ H Hb A) fun v H1 ⟨Hb1, d, M1, e1, A1, r1, xs, hd, q⟩ => ?_)
  subst hd
  cases r1 with
  | cons r1 r2 =>
    cases r2
    cases r1 with
    | lst h1 t1 => exact ⟨_, _, rfl, SqL.of (A1.hs.ex _ _ h1), Hb1, M1, _, e1, A1, itd_enum h1 t1, q⟩

/-! ### 17. for, while -/
/-- for: I by the turn, the names, the memory -/
theorem ds_for {body : List Stmt} (S : Sc X k n) (hs : ∀ x, foldedSetIterable iter X.env x = pure x)
    (h : DI X w tg iter Γ M fun ds M1 => ∃ I : Nat → Ga → Mm → Prop, I 0 Γ M1 ∧ (∀ i d Γ1 M1, ds[i]? = some d → I i Γ1 M1 → DG X w tg d Γ1 M1 fun Γ2 M2 => DS X w body Γ2 M2 { nx := I (i + 1), rt := P.rt, ct := I (i + 1), bk := fun Γ' M' => DS X w rest Γ' M' P }) ∧
      (∀ Γ1 M1, I ds.length Γ1 M1 → DS X w rest Γ1 M1 P)) : DS X w (.For tg iter body [] pos :: rest) Γ M P := .mk fun F σ H Hb A => by
  refine ds_seq (ps_for S.po S.calm semIt_ok semG_ok semB_ok hs) (semIt_mono (h.run F σ H Hb A) fun J H1 ⟨Hb1, M1, ds, e1, A1, it, I, i0, turn, fin⟩ => ?_)
  refine ⟨fun i m σ' H' => m = ds.length - i ∧ i ≤ ds.length ∧ ∃ Hb' Γ' M', Ex Hb1 Hb' ∧ At X w F Hb' H' σ' Γ' M' ∧ I i Γ' M', ⟨ds.length, by simp, Nat.zero_le _, Hb1, Γ, M1, Ex.refl _, A1, i0⟩, ?_⟩
  rintro i m σ' H' ⟨rfl, hi, Hb', Γ', M', e', A', q⟩
  by_cases hlt : i < ds.length
  · obtain ⟨go, yld⟩ := (it i F Hb' H' M' e' A'.hs).1 hlt
    refine .inr ⟨go, fun σ2 H2 => ∃ Hb' Γ' M', Ex Hb1 Hb' ∧ At X w F Hb' H2 σ2 Γ' M' ∧ I (i + 1) Γ' M', fun σ2 H2 z => ⟨ds.length - (i + 1), by omega, rfl, hlt, z⟩, fun v H2 y => ?_⟩
    obtain ⟨Hb2, d, e2, hs2, hd, r⟩ := yld v H2 y
    refine semG_mono ((turn i d Γ' M' hd q).run F σ' H2 Hb2 v (A'.hsTo e2 hs2) r) fun σ3 H3 ⟨Hb3, Γ3, M3, e3, A3, q3⟩ => ?_
    exact semB_mono (q3.run F σ3 H3 Hb3 A3) (fun _ _ ⟨a, b, c, d, e, q⟩ => ⟨a, b, c, ((e'.trans e2).trans e3).trans d, e, q⟩) (fun _ _ z => PostR.back (((e1.trans e').trans e2).trans e3) z)
      (fun _ _ ⟨a, b, c, d, e, q⟩ => semB_back ((((e1.trans e').trans e2).trans e3).trans d) (q.run F _ _ a e)) (fun _ _ ⟨a, b, c, d, e, q⟩ => ⟨a, b, c, ((e'.trans e2).trans e3).trans d, e, q⟩)
  · have e : i = ds.length := by omega
    subst e
    exact .inl ⟨(it _ F Hb' H' M' e' A'.hs).2 (Nat.le_refl _), semB_back (e1.trans e') ((fin Γ' M' q).run F σ' H' Hb' A')⟩
/-- while: I by the measure -/
theorem ds_while {body : List Stmt} (S : Sc X k n) (I : Nat → Ga → Mm → Prop) {m : Nat} (i0 : I m Γ M)
    (turn : ∀ m Γ1 M1, I m Γ1 M1 → DT X w c Γ1 M1 fun t M2 => (t = true → DS X w body Γ1 M2 { nx := fun Γ' M' => ∃ m', m' < m ∧ I m' Γ' M', rt := P.rt, ct := fun Γ' M' => ∃ m', m' < m ∧ I m' Γ' M', bk := fun Γ' M' => DS X w rest Γ' M' P }) ∧ (t = false → DS X w rest Γ1 M2 P)) : DS X w (.While c body [] pos :: rest) Γ M P := .mk fun F σ H Hb A => by
  refine ds_seq (ps_while S.po semT_ok semB_ok) ⟨fun m σ' H' => ∃ Hb' Γ' M', Ex Hb Hb' ∧ At X w F Hb' H' σ' Γ' M' ∧ I m Γ' M', ⟨m, Hb, Γ, M, Ex.refl _, A, i0⟩, ?_⟩
  rintro m σ' H' ⟨Hb', Γ', M', e', A', q⟩
  refine semT_mono ((turn m Γ' M' q).run F σ' H' Hb' A') fun t H2 ⟨Hb2, M2, e2, A2, q1, q2⟩ => ?_
  cases t with
  | true =>
    rw [if_pos rfl]
    refine ⟨fun σ2 H2 => ∃ m', m' < m ∧ ∃ Hb' Γ' M', Ex Hb Hb' ∧ At X w F Hb' H2 σ2 Γ' M' ∧ I m' Γ' M', fun σ2 H2 z => z, ?_⟩
    exact semB_mono ((q1 rfl).run F σ' H2 Hb2 A2) (fun _ _ ⟨a, b, c, d, e, m', l, q⟩ => ⟨m', l, a, b, c, (e'.trans e2).trans d, e, q⟩) (fun _ _ z => PostR.back (e'.trans e2) z)
      (fun _ _ ⟨a, b, c, d, e, q⟩ => semB_back ((e'.trans e2).trans d) (q.run F _ _ a e)) (fun _ _ ⟨a, b, c, d, e, m', l, q⟩ => ⟨m', l, a, b, c, (e'.trans e2).trans d, e, q⟩)
  | false => rw [if_neg Bool.false_ne_true]; exact semB_back (e'.trans e2) ((q2 rfl).run F σ' H2 Hb2 A2)

/-! ### 18. Comprehensions -/
/-- a comprehension's block over the context X -/
abbrev blkX (X : Cx) (scope : Scope) (s : Shared) (H : Hp) (C : Addr) (cl : List (Str × Addr)) (fp : List Addr) : Cx := X.blk s H scope (compEnvC scope cl C X.env) fp
/-- nothing is raised in it -/
abbrev Wi.dry (w : Wi) : Wi := ⟨w.h0, w.f0, fun _ _ _ _ => False⟩
theorem wok_dry {X : Cx} {w : Wi} : WOk X w.dry := fun u s' ⟨_, _, _, _, _, _, _, _, _, _, _, _, _, _, _, _, z⟩ => by
  obtain ⟨_, _, _, _, _, _, _, _, _, _, _, _, _, _, _, _, z⟩ := z
  exact z.elim
/-- the block's names Γb, of the names Γ around: captured ones as they are known, its own unknown -/
structure BlkG (N : List Str) (sc' : Scope) (own : List (Str × Nat)) (Γ Γb : Ga) : Prop where
  nd : (Γb.map (·.2.1)).Nodup
  vis : ∀ e ∈ Γb, Vis sc' e.1 ∧ okN e.1 = true
  get : ∀ e ∈ Γb, (e ∈ Γ ∧ e.2.1 ∉ own.map (·.2)) ∨ (e.2.2 = none ∧ N[e.2.1]? = some e.1)
theorem wipe_get {σ : St} {i : Nat} {x : V} : ∀ {vs : List Nat}, i ∉ vs → σ[i]? = some (some x) → (wipe σ vs)[i]? = some (some x)
  | [], _, h => h
  | v :: vs, hn, h => by
    simp only [List.mem_cons, not_or] at hn
    unfold wipe
    rw [List.getElem?_set_ne (Ne.symm hn.1)]
    exact wipe_get hn.2 h
theorem wipe_wipe (σ : St) (vs : List Nat) : wipe (wipe σ vs) vs = wipe σ vs := by
  have key : ∀ (us : List Nat) (σ : St), (∀ u ∈ us, u ∈ vs) → wipe (wipe σ us) vs = wipe σ vs := fun us => by
    induction us with
    | nil => intro σ _; rfl
    | cons u us ih =>
      intro σ h
      show wipe ((wipe σ us).set u none) vs = _
      rw [wipe_set _ _ (h u List.mem_cons_self)]
      exact ih σ fun z hz => h z (List.mem_cons_of_mem _ hz)
  exact key vs σ fun _ h => h
theorem Slots.blk {K : PySem.W.Frag} {mg : Str → Option Value} {N : List Str} {sc sc' : Scope} {Hb : Hp} {σ : St} {Γ Γb : Ga} {own : List (Str × Nat)} (x : Slots K mg N sc Hb σ Γ) (B : BlkG N sc' own Γ Γb) : Slots K mg N sc' Hb (wipe σ (own.map (·.2))) Γb :=
  ⟨by rw [wipe_length]; exact x.len, B.nd, fun e he => by
    rcases B.get e he with ⟨h, _⟩ | ⟨_, h⟩
    · exact ⟨(x.nm e h).1, B.vis e he⟩
    · exact ⟨h, B.vis e he⟩, fun e he d hd => by
    rcases B.get e he with ⟨h, h'⟩ | ⟨h, _⟩
    · obtain ⟨v, e1, e2⟩ := x.get e h d hd
      exact ⟨v, wipe_get h' e1, e2⟩
    · rw [h] at hd; cases hd⟩
def lcW (X : Cx) (w : Wi) (σ : St) (Γ : Ga) (F Hb1 : Hp) (D0 : Addr) (ds : List D) (I : Nat → List D → Mm → Prop) : Nat → Nat → Hp → Prop := fun i m H' => m = ds.length - i ∧ i ≤ ds.length ∧ ∃ Hb' M' acc us, Ex Hb1 Hb' ∧ At X w (upd F D0 (.lst us)) Hb' H' σ Γ M' ∧ Reps X.K X.mg Hb' us acc ∧ acc.length ≤ i ∧ I i acc M'
end
section
variable {X : Cx} {w : Wi} {Γ Γb : Ga} {M : Mm} {Q : D → Mm → Prop} {a b c e tg iter elt : Expr} {pos : Pos} {k : Nat} {n : Nm} {scope : Scope} {own : List (Str × Nat)} {vs : List Nat}
/-- the reading of a comprehension's parts, in every block -/
def semGA (X : Cx) (scope : Scope) (tg : Expr) : TG := fun v σ H Q => ∀ s0 H0 C cl fp, semG (blkX X scope s0 H0 C cl fp) tg v σ H Q
def semTA (X : Cx) (scope : Scope) (c : Expr) : TT := fun σ H Q => ∀ s0 H0 C cl fp, semT (blkX X scope s0 H0 C cl fp) c σ H Q
def semEA (X : Cx) (scope : Scope) (e : Expr) : TE := fun σ H Q => ∀ s0 H0 C cl fp, semE (blkX X scope s0 H0 C cl fp) e σ H Q
theorem semGA_ok (s0 : Shared) (H0 : Hp) (C : Addr) (cl : List (Str × Addr)) (fp : List Addr) : PG (X.blk s0 H0 scope (compEnvC scope cl C X.env) fp) tg (semGA X scope tg) := ⟨fun pins s σ H v u Q I r h => h s0 H0 C cl fp pins s u I r⟩
theorem semTA_ok (s0 : Shared) (H0 : Hp) (C : Addr) (cl : List (Str × Addr)) (fp : List Addr) : PT (X.blk s0 H0 scope (compEnvC scope cl C X.env) fp) c (semTA X scope c) := ⟨fun pins s σ H Q I h => h s0 H0 C cl fp pins s I⟩
theorem semEA_ok (s0 : Shared) (H0 : Hp) (C : Addr) (cl : List (Str × Addr)) (fp : List Addr) : PE (X.blk s0 H0 scope (compEnvC scope cl C X.env) fp) e (semEA X scope e) := ⟨fun pins s σ H Q I h => h s0 H0 C cl fp pins s I⟩
/-- a clause's tests: none, or one -/
def DIf (X : Cx) (w : Wi) (ifs : List Expr) (Γ : Ga) (M : Mm) (Q : Bool → Mm → Prop) : Prop := match ifs with
  | [] => Q true M
  | [c] => DT X w c Γ M Q
  | _ => False
def semIfA (X : Cx) (scope : Scope) (ifs : List Expr) : TT := match ifs with
  | [] => tYes
  | [c] => semTA X scope c
  | _ => fun _ _ _ => False
theorem semIfA_ok {ifs : List Expr} (s0 : Shared) (H0 : Hp) (C : Addr) (cl : List (Str × Addr)) (fp : List Addr) : PTs (X.blk s0 H0 scope (compEnvC scope cl C X.env) fp) ifs (semIfA X scope ifs) := by
  match ifs with
  | [] => exact pts_nil
  | [c] => exact pts_one (semTA_ok s0 H0 C cl fp)
  | _ :: _ :: _ => exact ⟨fun _ _ _ _ _ _ h => h.elim⟩
theorem Hs.thaw {K : PySem.W.Frag} {mg : Str → Option Value} {F Hb H : Hp} {M : Mm} {p : Addr} {o : HO} (h : Hs K mg (upd F p o) Hb H M) (hp : F p = none) : Hs K mg F (upd Hb p o) H M ∧ Ex Hb (upd Hb p o) := by
  obtain ⟨h1, h2, h3⟩ := h.fr p o upd_same
  refine ⟨⟨fun a u q => ?_, fun q c e => ?_, fun q u e => ?_⟩, Ex.new h2⟩
  · by_cases z : a = p
    · subst z; rw [upd_same] at q; cases q; exact h1
    · rw [upd_ne z] at q; exact h.ex a u q
  · have z : q ≠ p := fun z => by subst z; rw [h3] at e; cases e
    exact ⟨by rw [upd_ne z]; exact (h.ce q c e).1, (h.ce q c e).2.mono (Ex.new h2) rfl⟩
  · have z : q ≠ p := fun z => by subst z; rw [hp] at e; cases e
    obtain ⟨g1, g2, g3⟩ := h.fr q u (by rw [upd_ne z]; exact e)
    exact ⟨g1, by rw [upd_ne z]; exact g2, g3⟩
theorem At.toBlk {F Hb H : Hp} {σ : St} {Γ Γb : Ga} {M : Mm} (A : At X w F Hb H σ Γ M) (B : BlkG X.N (relS scope X.env.scope) own Γ Γb) (s0 : Shared) (H0 : Hp) (C : Addr) (cl : List (Str × Addr)) (fp : List Addr) :
    At (blkX X scope s0 H0 C cl fp) w.dry F Hb H (wipe σ (own.map (·.2))) Γb M := ⟨wok_dry, A.h0, A.f0, A.hs, A.sl.blk B⟩
theorem At.blkTo {F Hb H : Hp} {σ : St} {Γb : Ga} {M : Mm} {s0 : Shared} {H0 : Hp} {C : Addr} {cl : List (Str × Addr)} {fp : List Addr} (A : At (blkX X scope s0 H0 C cl fp) w.dry F Hb H σ Γb M) (s1 : Shared) (H1 : Hp) (C1 : Addr) (cl1 : List (Str × Addr)) (fp1 : List Addr) :
    At (blkX X scope s1 H1 C1 cl1 fp1) w.dry F Hb H σ Γb M := ⟨wok_dry, A.h0, A.f0, A.hs, A.sl⟩
/-- what a comprehension asks -/
def LcD (X : Cx) (w : Wi) (tg iter elt : Expr) (ifs : List Expr) (scope : Scope) (own : List (Str × Nat)) (Γ Γb : Ga) (M : Mm) (Q : D → Mm → Prop) : Prop :=
  DI X w tg iter Γ M fun ds M1 => ds.length ≤ sizeLine ∧ ∃ I : Nat → List D → Mm → Prop, I 0 [] M1 ∧
    (∀ i d acc M, ds[i]? = some d → I i acc M → ∀ s0 H0 C cl fp, DGV (blkX X scope s0 H0 C cl fp) w.dry (own.map (·.2)) tg d Γb M fun Γ2 M2 => ∀ s0 H0 C cl fp, DIf (blkX X scope s0 H0 C cl fp) w.dry ifs Γ2 M2 fun t M3 =>
      (t = true → ∀ s0 H0 C cl fp, DE (blkX X scope s0 H0 C cl fp) w.dry elt Γ2 M3 fun r M4 => I (i + 1) (acc ++ [r]) M4) ∧ (t = false → I (i + 1) acc M3)) ∧ (∀ acc M, I ds.length acc M → Q (.lst acc) M)
theorem lc_reading {ifs : List Expr} {F Hb H : Hp} {σ : St} (A : At X w F Hb H σ Γ M) (B : BlkG X.N (relS scope X.env.scope) own Γ Γb) (h : LcD X w tg iter elt ifs scope own Γ Γb M Q) :
    tLc (semIt X tg iter) (semGA X scope tg) (semIfA X scope ifs) (semEA X scope elt) (own.map (·.2)) σ H (PostE X w F Hb σ Γ Q) := by
  refine semIt_mono (h.run F σ H Hb A) fun J H1 ⟨Hb1, M1, ds, e1, A1, it, hz, I, i0, turn, fin⟩ => fun D0 hD => ?_
  have hF : F D0 = none := A1.hs.freeF hD
  have exF : ∀ o, Ex F (upd F D0 o) := fun o => Ex.new hF
  refine ⟨lcW X w σ Γ F Hb1 D0 ds I, ⟨ds.length, by simp, Nat.zero_le _, Hb1, M1, [], [], Ex.refl _, ⟨A1.wok, A1.h0, A1.f0.trans (exF _), A1.hs.frame hD _, A1.sl⟩, .nil, Nat.zero_le _, i0⟩, ?_⟩
  rintro i m H' ⟨rfl, hi, Hb', M', acc, us, e', A', r', ha, q⟩
  by_cases hlt : i < ds.length
  · obtain ⟨go, yld⟩ := (it i _ Hb' H' M' e' A'.hs).1 hlt
    refine .inr ⟨go, fun H2 => lcW X w σ Γ F Hb1 D0 ds I (i + 1) (ds.length - (i + 1)) H2, fun H2 z => ⟨ds.length - (i + 1), by omega, z⟩, fun v H2 y => ?_⟩
    obtain ⟨Hb2, d, e2, hs2, hd, r⟩ := yld v H2 y
    have A2 : At X w (upd F D0 (.lst us)) Hb2 H2 σ Γ M' := A'.hsTo e2 hs2
    intro s0 H0 C cl fp
    refine semG_mono ((turn i d acc M' hd q s0 H0 C cl fp).run _ _ H2 Hb2 v (A2.toBlk B s0 H0 C cl fp) r) fun σ3 H3 ⟨w3, Hb3, Γ3, M3, e3, A3, q3⟩ => ⟨w3.trans (wipe_wipe _ _), ?_⟩
    -- behind the tests
    have back : ∀ {Hb4 H4 : Hp} {M4 : Mm} {Γ4 : Ga} {us4 : List V} {acc4 : List D} {s1 H5 C1 cl1 fp1} {σ4 : St}, Ex Hb2 Hb4 → At (blkX X scope s1 H5 C1 cl1 fp1) w.dry (upd F D0 (.lst us4)) Hb4 H4 σ4 Γ4 M4 → Reps X.K X.mg Hb4 us4 acc4 → acc4.length ≤ i + 1 → I (i + 1) acc4 M4 → lcW X w σ Γ F Hb1 D0 ds I (i + 1) (ds.length - (i + 1)) H4 :=
      fun {Hb4 H4 M4 Γ4 us4 acc4 s1 H5 C1 cl1 fp1 σ4} ex A4 r4 l4 q4 => ⟨rfl, hlt, Hb4, M4, acc4, us4, (e'.trans e2).trans ex, ⟨A2.wok, A2.h0.trans ex, A4.f0, A4.hs, A2.sl.mono ex⟩, r4, l4, q4⟩
    have elts : ∀ {Hb4 H4 M4}, Ex Hb2 Hb4 → At (blkX X scope s0 H0 C cl fp) w.dry (upd F D0 (.lst us)) Hb4 H4 σ3 Γ3 M4 → (∀ s0 H0 C cl fp, DE (blkX X scope s0 H0 C cl fp) w.dry elt Γ3 M4 fun r M4 => I (i + 1) (acc ++ [r]) M4) →
        semEA X scope elt σ3 H4 (fun y H5 => ∃ acc, H5 D0 = some (.lst acc) ∧ acc.length < sizeLine ∧ lcW X w σ Γ F Hb1 D0 ds I (i + 1) (ds.length - (i + 1)) (upd H5 D0 (.lst (acc ++ [y])))) := fun {Hb4 H4 M4} ex A4 q4 s1 H1' C1 cl1 fp1 => by
      refine semE_mono ((q4 s1 H1' C1 cl1 fp1).run _ σ3 H4 Hb4 (A4.blkTo s1 H1' C1 cl1 fp1)) fun y H5 ⟨Hb5, d5, M5, e5, A5, r5, q5⟩ => ?_
      have fr := (A5.hs.fr D0 _ upd_same).1
      have l := r'.length
      refine ⟨us, fr, by omega, ?_⟩
      have hs5 := A5.hs.reframe (p := D0) upd_same (.lst (us ++ [y]))
      rw [upd_upd] at hs5
      have f5 : Ex w.f0 (upd F D0 (.lst (us ++ [y]))) := A1.f0.trans (exF _)
      exact back (s1 := s1) (H5 := H1') (C1 := C1) (cl1 := cl1) (fp1 := fp1) (ex.trans e5) ⟨wok_dry, A5.h0, f5, hs5, A5.sl⟩ (((((r'.mono e2).mono ex).mono e5)).append (.cons r5 .nil)) (by rw [List.length_append]; simp; omega) q5
    have q3 : ∀ s0 H0 C cl fp, DIf (blkX X scope s0 H0 C cl fp) w.dry ifs Γ3 M3 fun t M3 =>
      (t = true → ∀ s0 H0 C cl fp, DE (blkX X scope s0 H0 C cl fp) w.dry elt Γ3 M3 fun r M4 => I (i + 1) (acc ++ [r]) M4) ∧ (t = false → I (i + 1) acc M3) := q3
    clear h turn
    rcases ifs with _ | ⟨c, _ | ⟨c2, cs⟩⟩
    · have key : ∀ Q : Bool → Hp → Prop, Q true H3 → semIfA X scope [] σ3 H3 Q := fun Q z => z
      refine key _ ?_
      rw [if_pos rfl]
      have q4 : (true = true → ∀ s0 H0 C cl fp, DE (blkX X scope s0 H0 C cl fp) w.dry elt Γ3 M3 fun r M4 => I (i + 1) (acc ++ [r]) M4) ∧ (true = false → I (i + 1) acc M3) := q3 s0 H0 C cl fp
      exact elts e3 A3 (q4.1 rfl)
    · intro s1 H1' C1 cl1 fp1
      have q4 : DT (blkX X scope s1 H1' C1 cl1 fp1) w.dry c Γ3 M3 fun t M3 =>
        (t = true → ∀ s0 H0 C cl fp, DE (blkX X scope s0 H0 C cl fp) w.dry elt Γ3 M3 fun r M4 => I (i + 1) (acc ++ [r]) M4) ∧ (t = false → I (i + 1) acc M3) := q3 s1 H1' C1 cl1 fp1
      refine semT_mono (q4.run _ σ3 H3 Hb3 (A3.blkTo s1 H1' C1 cl1 fp1)) fun t H4 ⟨Hb4, M4, e4, A4, q5, q6⟩ => ?_
      cases t with
      | true => rw [if_pos rfl]; exact elts (e3.trans e4) (A4.blkTo s0 H0 C cl fp) (q5 rfl)
      | false => rw [if_neg Bool.false_ne_true]; exact back (e3.trans e4) A4 (((r'.mono e2).mono e3).mono e4) (by omega) (q6 rfl)
    · exact (q3 s0 H0 C cl fp).elim
  · have e : i = ds.length := by omega
    subst e
    obtain ⟨hs', ex'⟩ := A'.hs.thaw hF
    exact .inl ⟨(it _ _ Hb' H' M' e' A'.hs).2 (Nat.le_refl _), _, _, M', (e1.trans e').trans ex', ⟨A'.wok, A'.h0.trans ex', A1.f0, hs', A'.sl.mono ex'⟩, .lst upd_same (r'.mono ex'), fin acc M' q⟩
theorem de_lc {ifs : List Expr} (S : Sc X k n) (ok : BlkOk X.N X.env.scope scope own) (B : BlkG X.N (relS scope X.env.scope) own Γ Γb) (hs : ∀ x, foldedSetIterable iter X.env x = pure x) (h : LcD X w tg iter elt ifs scope own Γ Γb M Q) :
    DE X w (.ListComp elt [⟨tg, iter, ifs, 0⟩] scope pos) Γ M Q := .mk fun F σ H Hb A =>
  semE_of (pe_lc S.calm S.nd semIt_ok ok semGA_ok semIfA_ok semEA_ok hs) (lc_reading A B h)
/-- y = [..] on one line -/
theorem ds_setLc {ifs : List Expr} {y : Str} {i : Nat} {py spos : Pos} {rest : List Stmt} {P : Po} (S : Sc X k n) {o : Option D} (hm : (y, i, o) ∈ Γ) (hyl : X.env.scope.names.lookup y = some .local)
    (hsw : swapsWith (.ListComp elt [⟨tg, iter, ifs, 0⟩] scope pos) (some (.Name y py)) spos.line X.env = pure true) (ok : BlkOk X.N X.env.scope scope own) (B : BlkG X.N (relS scope X.env.scope) own Γ Γb) (hs : ∀ x, foldedSetIterable iter X.env x = pure x)
    (h : LcD X w tg iter elt ifs scope own Γ Γb M fun d M1 => ∃ Γ', Put Γ y d Γ' i ∧ DS X w rest Γ' M1 P) :
    DS X w (.Assign [.Name y py] (.ListComp elt [⟨tg, iter, ifs, 0⟩] scope pos) spos :: rest) Γ M P := .mk fun F σ H Hb A => by
  refine ds_seq (ps_setLc (i := i) S.calm S.nd (A.sl.nm _ hm).1 hyl hsw semIt_ok ok semGA_ok semIfA_ok semEA_ok hs) ?_
  have q := lc_reading A B h
  refine semIt_mono q fun J H1 q2 => fun D0 hD => ?_
  obtain ⟨W, w0, ws⟩ := q2 D0 hD
  refine ⟨W, w0, fun i m H' z => ?_⟩
  rcases ws i m H' z with ⟨st, ⟨Hb', d', M', e', A', r', Γ', hp, q'⟩⟩ | z
  · exact .inl ⟨st, semB_back e' (q'.run F _ H' Hb' (A'.put hp r'))⟩
  · exact .inr z
end
end L3
namespace L3
open PySem PySem.Spec PyProof.Rows L2

/-! ### 19. What a def promises, over data -/
abbrev SpD := List D → Mm → (D → Mm → Prop) → (Str → List (Str × D) → Mm → Prop) → Prop
def spD (K : PySem.W.Frag) (mg : Str → Option Value) (S : SpD) : Sp := fun vs H Q E => ∃ (F Hb : Hp) (ds : List D) (M : Mm) (Qd : D → Mm → Prop) (Ed : Str → List (Str × D) → Mm → Prop), Hs K mg F Hb H M ∧ Reps K mg Hb vs ds ∧ S ds M Qd Ed ∧
  (∀ v H' Hb' d M', Qd d M' → Ex Hb Hb' → Hs K mg F Hb' H' M' → Rep K mg Hb' v d → Q v H') ∧
  ∀ c fs dd ws H' Hb' M', Ed c fs M' → Ex Hb Hb' → Hs K mg F Hb' H' M' → H' dd = some (.xd ws) → RepF K mg Hb' ws fs → E (.ref (ca mg c)) (some dd) H'
/-- a call's form: n values by place, the keywords ks; where each further parameter's value stands among the keywords' -/
structure KwF where
  n : Nat
  ks : List Str
  perm : List Nat
  df : List D := []
/-- so are the arguments bound: the further parameters' values are the keywords', then the defaults -/
def KB (K : PySem.W.Frag) (mg : Str → Option Value) (fd : FuncData) (ps : List Str) (f : KwF) : Prop := ∃ (dv : List Value) (dvs : List V), Vals dvs dv ∧ (∀ Hb, Reps K mg Hb dvs f.df) ∧ ∀ (s : Shared) (us ws : List Value), K.In s.heap → us.length = f.n → ws.length = f.ks.length → BindsTo s fd ⟨us, f.ks.zip ws⟩ (ps.zip (us ++ f.perm.map fun j => (ws ++ dv).getD j .none))
theorem KB.of_eq {K : PySem.W.Frag} {mg : Str → Option Value} {fd : FuncData} {ps : List Str} {f : KwF} (hd : f.df = []) (h : ∀ us ws : List Value, us.length = f.n → ws.length = f.ks.length → bindArgs fd ⟨us, f.ks.zip ws⟩ = pure (ps.zip (us ++ f.perm.map fun j => ws.getD j .none))) : KB K mg fd ps f :=
  ⟨[], [], .nil, fun Hb => by rw [hd]; exact .nil, fun s us ws _ h1 h2 => by rw [List.append_nil]; exact .of_eq (h us ws h1 h2)⟩
/-- the def x of the module promises S, by at most the level k -/
structure FnD (P : Program) (w : World) (K : PySem.W.Frag) (mg : Str → Option Value) (base : Heap) (k : Nat) (x : Str) (ps : List Str) (KW : List KwF) (S : SpD) : Prop where
  gm : mg x = some (.ref (ca mg x))
  kp : PySem.W.keepIn K (.ref (ca mg x)) = true
  ex : ∃ fd, FnOk P w K mg base (L2.CX P w) k (ca mg x) fd ps (spD K mg S) ∧ Binds K fd ps [] ∧ ∀ f ∈ KW, KB K mg fd ps f
theorem FnD.mono {P w K mg base k k' x ps KW S} (F : FnD P w K mg base k x ps KW S) (h : k ≤ k') : FnD P w K mg base k' x ps KW S := ⟨F.gm, F.kp, let ⟨fd, f, b⟩ := F.ex; ⟨fd, f.mono h, b⟩⟩
section
variable {P : Program} {W : World} {K : PySem.W.Frag} {mg : Str → Option Value} {base : Heap}
/-- the context of a def's body -/
abbrev cxD (P : Program) (W : World) (K : PySem.W.Frag) (mg : Str → Option Value) (base : Heap) (N : List Str) (qual : Str) (st : Stmt) (f : Addr) (cdv : Value) (A : Around) (outer : List Env) (s : Shared) (H : Hp) (E : XK) : Cx :=
  cxOf (L2.CX P W) P W K mg base N qual (defScope st) f cdv A outer s H E
/-- a scope as a body wants it: the names vis visible, n's names as they are told -/
def isK (sc : Scope) (x : Str) (l c f g : Bool) : Bool := match sc.names.lookup x with
  | some .local => l
  | some .cell => c
  | some .free => f
  | some .globalImplicit => g
  | _ => false
def scB (vis : List Str) (sc : Scope) (n : Nm) : Bool :=
  vis.all (fun x => okN x && isK sc x true true true false) && (n.locs.all (fun x => isK sc x true true false false) && (n.lcl.all (fun x => isK sc x true false false false) &&
  (n.cel.all (fun x => isK sc x false true false false) && (n.glb.all (fun x => okN x && isK sc x false false false true) && decide (sc.kind = .function)))))
theorem isK_l {sc : Scope} {x : Str} (h : isK sc x true false false false = true) : sc.names.lookup x = some .local := by
  unfold isK at h; split at h <;> first | exact (Bool.false_ne_true h).elim | assumption
theorem isK_c {sc : Scope} {x : Str} (h : isK sc x false true false false = true) : sc.names.lookup x = some .cell := by
  unfold isK at h; split at h <;> first | exact (Bool.false_ne_true h).elim | assumption
theorem isK_g {sc : Scope} {x : Str} (h : isK sc x false false false true = true) : sc.names.lookup x = some .globalImplicit := by
  unfold isK at h; split at h <;> first | exact (Bool.false_ne_true h).elim | assumption
theorem isK_lc {sc : Scope} {x : Str} (h : isK sc x true true false false = true) : L2.Loc sc x := by
  unfold isK at h; unfold L2.Loc; split at h <;> first | exact (Bool.false_ne_true h).elim | exact .inl (by assumption) | exact .inr (by assumption)
theorem isK_v {sc : Scope} {x : Str} (h : isK sc x true true true false = true) : Vis sc x := by
  unfold isK at h; unfold Vis; split at h <;> first | exact (Bool.false_ne_true h).elim | exact .inl (by assumption) | exact .inr (.inl (by assumption)) | exact .inr (.inr (by assumption))
structure ScB (vis : List Str) (sc : Scope) (n : Nm) : Prop where
  vis : ∀ x ∈ vis, Vis sc x ∧ okN x = true
  loc : ∀ x ∈ n.locs, L2.Loc sc x
  lcl : ∀ x ∈ n.lcl, sc.names.lookup x = some .local
  cel : ∀ x ∈ n.cel, sc.names.lookup x = some .cell
  gl : ∀ x ∈ n.glb, sc.names.lookup x = some .globalImplicit ∧ okN x = true
  kd : sc.kind = .function
theorem scB_of {vis : List Str} {sc : Scope} {n : Nm} (h : scB vis sc n = true) : ScB vis sc n := by
  unfold scB at h
  simp only [Bool.and_eq_true, List.all_eq_true, decide_eq_true_eq] at h
  obtain ⟨h1, h2, h3, h4, h5, h6⟩ := h
  exact ⟨fun x hx => ⟨isK_v (h1 x hx).2, (h1 x hx).1⟩, fun x hx => isK_lc (h2 x hx), fun x hx => isK_l (h3 x hx), fun x hx => isK_c (h4 x hx), fun x hx => ⟨isK_g (h5 x hx).2, (h5 x hx).1⟩, h6⟩
theorem fm_congr {α β : Type} {f g : α → Option β} : ∀ {l : List α}, (∀ a ∈ l, f a = g a) → l.filterMap f = l.filterMap g
  | [], _ => rfl
  | a :: l, h => by
    rw [List.filterMap_cons, List.filterMap_cons, h a List.mem_cons_self, fm_congr fun b hb => h b (List.mem_cons_of_mem _ hb)]
theorem zip_lookup {names : List Str} (nd : names.Nodup) : ∀ {us : List Value}, us.length = names.length → (names.filterMap fun n => ((names.zip us).lookup n).map fun v => (n, v)) = names.zip us := by
  induction names with
  | nil => intro us h; rfl
  | cons x xs ih =>
    intro us h
    cases us with
    | nil => simp at h
    | cons u us =>
      rw [List.nodup_cons] at nd
      have e : ∀ n ∈ xs, ((x :: xs).zip (u :: us)).lookup n = (xs.zip us).lookup n := fun n hn => by
        have : (n == x) = false := by
          have q : n ≠ x := fun z => nd.1 (by rw [← z]; exact hn)
          simpa using q
        simp [List.lookup_cons, this]
      have e1 : ((x :: xs).zip (u :: us)).lookup x = some u := by simp
      have e2 := fm_congr (l := xs) (f := fun n => (((x :: xs).zip (u :: us)).lookup n).map fun v => (n, v)) (g := fun n => ((xs.zip us).lookup n).map fun v => (n, v)) fun n hn => by rw [e n hn]
      rw [List.filterMap_cons, e1, e2, ih nd.2 (by simpa using h)]
      rfl
theorem zip_all {names : List Str} (nd : names.Nodup) {us : List Value} (h : us.length = names.length) : ∀ n ∈ names, ((names.zip us).lookup n).isNone = false := by
  induction names generalizing us with
  | nil => intro n hn; cases hn
  | cons x xs ih =>
    intro n hn
    cases us with
    | nil => simp at h
    | cons u us =>
      rw [List.nodup_cons] at nd
      by_cases e : n = x
      · subst e; simp
      · have e' : (n == x) = false := by simpa using e
        have hn' : n ∈ xs := by rcases List.mem_cons.mp hn with z | z; exact absurd z e; exact z
        simp only [List.zip_cons_cons, List.lookup_cons, e']
        exact ih nd.2 (by simpa using h) n hn'
theorem bind_pos {fd : FuncData} {ps : List Str} (h1 : fd.params.posonlyargs = []) (h2 : fd.params.args.map (·.arg) = ps) (h3 : fd.params.kwonlyargs = []) (h4 : fd.params.vararg = none) (h5 : fd.params.kwarg = none) (hd : fd.defaults = .none) (nd : ps.Nodup)
    (us : List Value) (hl : us.length = ps.length) : bindArgs fd ⟨us, []⟩ = pure (ps.zip us) := by
  unfold bindArgs
  simp only [h1, h2, h3, h4, h5, hd, List.map_nil, List.nil_append, List.append_nil]
  rw [List.forIn_nil]
  have hs : seqItems? Value.none = pure none := rfl
  have m : (List.filter (fun n => (List.lookup n (ps.zip us)).isNone) ps) = [] := by
    rw [List.filter_eq_nil_iff]
    intro n hn
    rw [zip_all nd hl n hn]
    exact Bool.false_ne_true
  have l1 : (decide (us.length > ps.length) && Option.isNone (none : Option PySem.Arg)) = false := by
    rw [decide_eq_false (by omega), Bool.false_and]
  simp only [pure_bind, hs, Option.getD_none, List.toList_toArray, List.length_nil, Nat.zero_sub, List.drop_nil, Nat.sub_zero, List.take_length, m, List.isEmpty_nil, Bool.not_true, l1, List.drop_length, List.zip_nil_left, List.forIn_nil]
  simp only [if_neg Bool.false_ne_true]
  show pure _ = _
  congr 1
  exact zip_lookup nd hl
/-- a def as the written part holds it, its defaults dds, its keyword-only defaults kds -/
structure FunV (K : PySem.W.Frag) (mg : Str → Option Value) (x qual : Str) (st : Stmt) (dds : List D) (kds : List (Str × D)) (f : Addr) (fd : FuncData) : Prop where
  ex : ∃ (dvs : List V) (kvs : List (Str × V)), FunD K x qual (defArgs st) (defBody st) (defScope st) dvs kvs f fd ∧ (∀ Hb, Reps K mg Hb dvs dds) ∧ ∀ Hb, RepF K mg Hb kvs kds
  kp : PySem.W.keepIn K (.ref f) = true
theorem funV_of {x qual : Str} {st : Stmt} {f : Addr} {fd : FuncData} (F : Fun K x qual st f fd) : FunV K mg x qual st [] [] f fd := by
  obtain ⟨oc, od, kV, doc, pm, an, cdv, ct, osl, rfl, lk, hcd⟩ := F.ex
  exact ⟨⟨[], [], ⟨⟨oc, od, _, kV, doc, pm, an, cdv, ct, osl, rfl, lk, hcd, .inl ⟨rfl, rfl⟩, .inl rfl⟩, F.kp⟩, fun _ => .nil, fun _ => .nil⟩, F.kp⟩
/-- all parameters are handed over, some have defaults -/
theorem FunV.bindsAll {x qual : Str} {st : Stmt} {dds : List D} {f : Addr} {fd : FuncData} {ps : List Str} (F : FunV K mg x qual st dds [] f fd) (hd : dds ≠ [])
    (h : ∀ (T : Addr) (kV doc pm : Value) (an : Option Addr) (cdv ct : Value) (us its : List Value), us.length = ps.length → its.length = dds.length →
      ∃ k, bindArgs (PySem.W.fnOf x qual (defArgs st) (defBody st) (defScope st) (.ref T) kV doc pm an cdv ct) ⟨us, []⟩ = seqItems? (.ref T) >>= k ∧ k (some its.toArray) = pure (ps.zip us)) : Binds K fd ps [] := by
  obtain ⟨dvs, kvs, FD, r, rk⟩ := F.ex
  have hl := (r fun _ => none).length
  have hd' : dvs ≠ [] := fun e => hd (List.length_eq_zero_iff.mp (by rw [← hl, e]; rfl))
  obtain ⟨ds, v, b⟩ := FD.binds1 (ps := ps) ps.length dvs.length hd' (by omega) (fun T kV doc pm an cdv ct us its h1 h2 => by
    obtain ⟨k, e1, e2⟩ := h T kV doc pm an cdv ct us its h1 (h2.trans hl)
    exact ⟨k, e1, by rw [e2, List.drop_of_length_le (by omega), List.append_nil]⟩)
  rw [List.drop_of_length_le (Nat.le_refl _)] at v
  cases v
  exact b
/-- some parameters lack: defaults fill up -/
theorem FunV.kb {x qual : Str} {st : Stmt} {dds : List D} {f : Addr} {fd : FuncData} {ps : List Str} (F : FunV K mg x qual st dds [] f fd) (hd : dds ≠ []) (kf : KwF) (he : kf.df = dds)
    (h : ∀ (T : Addr) (kV doc pm : Value) (an : Option Addr) (cdv ct : Value) (us ws its : List Value), us.length = kf.n → ws.length = kf.ks.length → its.length = dds.length →
      ∃ k, bindArgs (PySem.W.fnOf x qual (defArgs st) (defBody st) (defScope st) (.ref T) kV doc pm an cdv ct) ⟨us, kf.ks.zip ws⟩ = seqItems? (.ref T) >>= k ∧ k (some its.toArray) = pure (ps.zip (us ++ kf.perm.map fun j => (ws ++ its).getD j .none))) : KB K mg fd ps kf := by
  obtain ⟨dvs, kvs, FD, r, rk⟩ := F.ex
  have hl := (r fun _ => none).length
  obtain ⟨oc, od, dV, kV, doc, pm, an, cdv, ct, osl, rfl, lk, hcd, hD, hK⟩ := FD.ex
  rcases hD with ⟨e, _⟩ | ⟨_, T, o, its, m, rfl, lT, oT, rT⟩
  · exact absurd (List.length_eq_zero_iff.mp (by rw [← hl, e]; rfl)) hd
  · refine ⟨its, dvs, rT, fun Hb => by rw [he]; exact r Hb, fun s us ws X h1 h2 => ?_⟩
    obtain ⟨k, e1, e2⟩ := h T kV doc pm an cdv ct us ws its h1 h2 (by rw [← rT.length]; exact hl)
    refine BindsTo.of_looks fun M => ?_
    rw [e1]
    exact looks_items X lT oT (.of_pure e2)
/-- keyword-only defaults, no others: all positional parameters are handed over; the keyword-only ones by their keywords or not -/
theorem FunV.kb0 {x qual : Str} {st : Stmt} {kds : List (Str × D)} {f : Addr} {fd : FuncData} {ps : List Str} (F : FunV K mg x qual st [] kds f fd) (hk : kds ≠ []) (kf : KwF) (lacks : Bool) (he : kf.df = if lacks then kds.map (·.2) else [])
    (h : ∀ (D : Addr) (doc pm : Value) (an : Option Addr) (cdv ct : Value) (us ws ks : List Value), us.length = kf.n → ws.length = kf.ks.length → ks.length = kf.df.length →
      KwChain D (if lacks then (kds.map (·.1)).zip ks else []) (bindArgs (PySem.W.fnOf x qual (defArgs st) (defBody st) (defScope st) .none (.ref D) doc pm an cdv ct) ⟨us, kf.ks.zip ws⟩) (ps.zip (us ++ kf.perm.map fun j => (ws ++ ks).getD j .none))) : KB K mg fd ps kf := by
  obtain ⟨dvs, kvs, FD, r, rk⟩ := F.ex
  have hl := (r fun _ => none).length
  obtain rfl : dvs = [] := List.length_eq_zero_iff.mp hl
  have hkn : kvs.map (·.1) = kds.map (·.1) ∧ ∀ Hb, Reps K mg Hb (kvs.map (·.2)) (kds.map (·.2)) := by
    have go : ∀ {a : List (Str × V)} {b : List (Str × D)} {Hb : Hp}, RepF K mg Hb a b → a.map (·.1) = b.map (·.1) ∧ Reps K mg Hb (a.map (·.2)) (b.map (·.2)) := by
      intro a
      induction a with
      | nil => intro b Hb h; cases h; exact ⟨rfl, .nil⟩
      | cons q a ih =>
        intro b Hb h
        cases h with
        | cons h1 h2 => exact ⟨by rw [List.map_cons, List.map_cons, (ih h2).1], .cons h1 (ih h2).2⟩
    exact ⟨(go (rk fun _ => none)).1, fun Hb => (go (rk Hb)).2⟩
  have hkl : kvs ≠ [] := fun e => hk (List.map_eq_nil_iff.mp (by rw [← hkn.1, e]; rfl))
  obtain ⟨oc, od, dV, kV, doc, pm, an, cdv, ct, osl, rfl, lk, hcd, hD, hK⟩ := FD.ex
  rcases hD with ⟨_, rfl⟩ | ⟨e, _⟩
  · rcases hK with e | ⟨D, rfl, hq⟩
    · exact absurd e hkl
    · obtain ⟨ks, hl2, rk2, hks⟩ := kwd_vals hq
      cases lacks with
      | true =>
        refine ⟨ks, kvs.map (·.2), rk2, fun Hb => by rw [he]; exact hkn.2 Hb, fun s us ws X h1 h2 => BindsTo.of_looks fun M => KwChain.looks X ?_ (h D doc pm an cdv ct us ws ks h1 h2 ?_)⟩
        · simp only [if_true]
          rw [← hkn.1]
          exact hks
        · rw [he, if_pos rfl, List.length_map, hl2]
          have := congrArg List.length hkn.1
          rw [List.length_map, List.length_map] at this
          exact this
      | false =>
        refine ⟨[], [], .nil, fun Hb => by rw [he]; exact .nil, fun s us ws X h1 h2 => BindsTo.of_looks fun M => KwChain.looks X ?_ (h D doc pm an cdv ct us ws [] h1 h2 (by rw [he]; rfl))⟩
        simp
  · exact absurd rfl e
/-- all that is asked of a def's text, its parameters aside -/
def defB0 (N C ps : List Str) (st : Stmt) (n : Nm) : Bool :=
  decide ((defScope st).isCoroutine = false) && (decide ((defScope st).isGenerator = false) && (decide (N ++ C).Nodup && (decide ((N ++ C).take ps.length = ps) && ((ps.all fun x => isK (defScope st) x true true false false) && ((defScope st).names.all (fun y => decide (y.2 ≠ .free)) && (scB N (defScope st) n && decide (ps.length ≤ N.length)))))))
structure DefB0 (N C ps : List Str) (st : Stmt) (n : Nm) : Prop where
  sc : FnScope (N ++ C) ps (defScope st)
  sb : ScB N (defScope st) n
  len : ps.length ≤ N.length
theorem defB0_of {N C ps : List Str} {st : Stmt} {n : Nm} (h : defB0 N C ps st n = true) : DefB0 N C ps st n := by
  unfold defB0 at h
  simp only [Bool.and_eq_true, decide_eq_true_eq, List.all_eq_true] at h
  obtain ⟨h1, h2, h3, h4, h5, h6, h7, h8⟩ := h
  have sb := scB_of h7
  exact ⟨⟨sb.kd, h1, h2, h3, h4, fun x hx => isK_lc (h5 x hx), h6⟩, sb, h8⟩
/-- all that is asked of a def's text -/
def defB (N C ps : List Str) (st : Stmt) (n : Nm) : Bool :=
  decide ((defScope st).isCoroutine = false) && (decide ((defScope st).isGenerator = false) && (decide (N ++ C).Nodup && (decide ((N ++ C).take ps.length = ps) && ((ps.all fun x => isK (defScope st) x true true false false) && ((defScope st).names.all (fun y => decide (y.2 ≠ .free)) && (scB N (defScope st) n && (decide (ps.length ≤ N.length) &&
  ((defArgs st).posonlyargs.isEmpty && (decide ((defArgs st).args.map (·.arg) = ps) && ((defArgs st).kwonlyargs.isEmpty && ((defArgs st).vararg.isNone && ((defArgs st).kwarg.isNone && decide ps.Nodup))))))))))))
structure DefB (N C ps : List Str) (st : Stmt) (n : Nm) : Prop where
  sc : FnScope (N ++ C) ps (defScope st)
  sb : ScB N (defScope st) n
  len : ps.length ≤ N.length
  p1 : (defArgs st).posonlyargs = []
  p2 : (defArgs st).args.map (·.arg) = ps
  p3 : (defArgs st).kwonlyargs = []
  p4 : (defArgs st).vararg = none
  p5 : (defArgs st).kwarg = none
  nd : ps.Nodup
theorem defB_of {N C ps : List Str} {st : Stmt} {n : Nm} (h : defB N C ps st n = true) : DefB N C ps st n := by
  unfold defB at h
  simp only [Bool.and_eq_true, decide_eq_true_eq, List.all_eq_true, List.isEmpty_iff, Option.isNone_iff_eq_none] at h
  obtain ⟨h1, h2, h3, h4, h5, h6, h7, h8, q1, q2, q3, q4, q5, q6⟩ := h
  have sb := scB_of h7
  exact ⟨⟨sb.kd, h1, h2, h3, h4, fun x hx => isK_lc (h5 x hx), h6⟩, sb, h8, q1, q2, q3, q4, q5, q6⟩
theorem DefB.binds {N C ps : List Str} {st : Stmt} {n : Nm} (d : DefB N C ps st n) {x qual : Str} {f : Addr} {fd : FuncData} (F : Fun K x qual st f fd) : Binds K fd ps [] :=
  F.binds fun _ _ _ _ _ _ us hl => bind_pos d.p1 d.p2 d.p3 d.p4 d.p5 rfl d.nd us hl
/-- THE RULE for a def: its body, walked over data -/
theorem fnOk_ofV {x qual : Str} {st : Stmt} {f : Addr} {fd : FuncData} (N C ps : List Str) (n : Nm) {k : Nat} {S : SpD} {dds : List D} {kds : List (Str × D)} (F : FunV K mg x qual st dds kds f fd) (dd : DefB0 N C ps st n) (hbt : ∀ x ∈ n.bts, mg x = none)
    (len : ∀ ds M Q E, S ds M Q E → ds.length = ps.length)
    (body : ∀ (X : Cx) (w : Wi) (ds : List D) (M : Mm) (Q : D → Mm → Prop) (E : Str → List (Str × D) → Mm → Prop), X.prog = P → X.w = W → X.K = K → X.mg = mg → X.base = base → X.N = N ++ C → X.env.scope = defScope st → Sc X k n → S ds M Q E → (w.ed = fun _ c fs M' => E c fs M') →
      DS X w (defBody st) (mkG 0 N ds) M { nx := fun _ M' => Q .non M', rt := Q }) : FnOk P W K mg base (L2.CX P W) (k + 1) f fd ps (spD K mg S) := by
  have Sc0 := dd.sc
  have sb' := dd.sb
  have hps := dd.len
  obtain ⟨dvs, kvs, FD, _, _⟩ := F.ex
  refine FD.ok Sc0 (fun vs H Q E ⟨_, _, ds, _, _, _, _, r, q, _, _⟩ => by rw [r.length]; exact len _ _ _ _ q) (fun cdv A outer s H vs Q E hr hsp => ?_)
  obtain ⟨F0, Hb, ds, M, Qd, Ed, hs, r, q, hQ, hE⟩ := hsp
  refine ⟨semB _ _, semB_ok, ?_⟩
  have sc : Sc (cxD P W K mg base (N ++ C) qual st f cdv A outer s H E) k n :=
    ⟨Sc0.nd, rfl, passes_of rfl, hr, sb'.kd, fun y hy => ⟨sb'.loc y hy, .inl rfl⟩, sb'.lcl, sb'.cel, fun y hy => sb'.gl y hy, hbt⟩
  have b := body (cxD P W K mg base (N ++ C) qual st f cdv A outer s H E) ⟨Hb, F0, fun _ c fs M' => Ed c fs M'⟩ ds M Qd Ed rfl rfl rfl rfl rfl rfl rfl sc q rfl
  have dl := len _ _ _ _ q
  have wok : WOk (cxD P W K mg base (N ++ C) qual st f cdv A outer s H E) ⟨Hb, F0, fun _ c fs M' => Ed c fs M'⟩ := by
    refine (takes_of rfl rfl rfl rfl : Takes _ (fun cls d _ H => E cls d H)).imp fun cls d σ H' z => ?_
    obtain ⟨c, fs, dd, ws, F', Hb', Γ', M', h1, h2, h3, h4, h5, h6, h7, h8, h9⟩ := z
    subst h1 h2
    exact hE c fs dd ws H' Hb' M' h9 h5 (h7.less h6) h3 h4
  have at0 : At (cxD P W K mg base (N ++ C) qual st f cdv A outer s H E) ⟨Hb, F0, fun _ c fs M' => Ed c fs M'⟩ F0 Hb H (L2.start (N ++ C) vs) (mkG 0 N ds) M :=
    ⟨wok, Ex.refl _, Ex.refl _, hs, Slots.start r (by show ds.length ≤ N.length; omega) sb'.vis⟩
  exact semB_mono (b.run F0 _ H Hb at0) (fun σ' H' ⟨Hb', Γ', M', e', A', q'⟩ => hQ .non H' Hb' .non M' q' e' A'.hs .non) (fun v H' ⟨Hb', d, M', e', h', r', q'⟩ => hQ v H' Hb' d M' q' e' h' r') (fun _ _ ⟨_, _, _, _, _, z⟩ => z.elim) (fun _ _ ⟨_, _, _, _, _, z⟩ => z.elim)
theorem fnOk_of {x qual : Str} {st : Stmt} {f : Addr} {fd : FuncData} (N C ps : List Str) (n : Nm) {k : Nat} {S : SpD} (F : Fun K x qual st f fd) (chk : defB N C ps st n = true) (hbt : ∀ x ∈ n.bts, mg x = none)
    (len : ∀ ds M Q E, S ds M Q E → ds.length = ps.length)
    (body : ∀ (X : Cx) (w : Wi) (ds : List D) (M : Mm) (Q : D → Mm → Prop) (E : Str → List (Str × D) → Mm → Prop), X.prog = P → X.w = W → X.K = K → X.mg = mg → X.base = base → X.N = N ++ C → X.env.scope = defScope st → Sc X k n → S ds M Q E → (w.ed = fun _ c fs M' => E c fs M') →
      DS X w (defBody st) (mkG 0 N ds) M { nx := fun _ M' => Q .non M', rt := Q }) : FnOk P W K mg base (L2.CX P W) (k + 1) f fd ps (spD K mg S) :=
  let d := defB_of chk
  fnOk_ofV N C ps n (funV_of F) ⟨d.sc, d.sb, d.len⟩ hbt len body
theorem fnD_of {x qual : Str} {st : Stmt} {fd : FuncData} (N C ps : List Str) (n : Nm) {k : Nat} {S : SpD} (gm : mg x = some (.ref (ca mg x))) (F : Fun K x qual st (ca mg x) fd) (chk : defB N C ps st n = true) (hbt : ∀ x ∈ n.bts, mg x = none)
    {KW : List KwF} (kb : ∀ f ∈ KW, KB K mg fd ps f)
    (len : ∀ ds M Q E, S ds M Q E → ds.length = ps.length)
    (body : ∀ (X : Cx) (w : Wi) (ds : List D) (M : Mm) (Q : D → Mm → Prop) (E : Str → List (Str × D) → Mm → Prop), X.prog = P → X.w = W → X.K = K → X.mg = mg → X.base = base → X.N = N ++ C → X.env.scope = defScope st → Sc X k n → S ds M Q E → (w.ed = fun _ c fs M' => E c fs M') →
      DS X w (defBody st) (mkG 0 N ds) M { nx := fun _ M' => Q .non M', rt := Q }) : FnD P W K mg base (k + 1) x ps KW S :=
  ⟨gm, F.kp, fd, fnOk_of N C ps n F chk hbt len body, (defB_of chk).binds F, kb⟩
end
section
variable {X : Cx} {w : Wi} {Γ Γ' : Ga} {M : Mm} {Q : D → Mm → Prop} {x : Str} {i : Nat} {d : D} {a b c e tg iter elt : Expr} {es rest' : List Expr} {pos p : Pos} {k k0 : Nat} {n : Nm} {ps : List Str} {KW : List KwF} {S : SpD}
theorem run_spD {F Hb H : Hp} {σ : St} {vs : List V} {ds : List D} {H0 : Hp} (A : At X w F Hb H σ Γ M) (e0 : Ex H0 Hb) (r : Reps X.K X.mg Hb vs ds) (q : S ds M Q fun c fs M' => w.ed Γ c fs M') :
    spD X.K X.mg S vs H (PostE X w F H0 σ Γ Q) (WE (LiftX X w) σ) :=
  ⟨F, Hb, ds, M, Q, fun c fs M' => w.ed Γ c fs M', A.hs, r, q, fun v H' Hb' d M' hq e' h' r' => ⟨Hb', d, M', e0.trans e', A.hsTo e' h', r', hq⟩,
    fun c fs dd ws H' Hb' M' hq e' h' h3 h4 => ⟨c, fs, dd, ws, F, Hb', Γ, M', rfl, rfl, h3, h4, A.h0.trans e', A.f0, h', A.sl.mono e', hq⟩⟩
/-- f(e, ..) -/
theorem de_call (Sx : Sc X k0 n) (C : FnD X.prog X.w X.K X.mg X.base k x ps KW S) (hk : k ≤ k0) (hx : x ∈ n.glb) (he : starEach (e :: es) X.env = (false, eval e X.env) :: starEach es X.env) (hpl : (backTo pos (starEach es X.env)).any (·.1) = false)
    (h : DA X w (e :: es) Γ M fun ds M1 => S ds M1 Q fun c fs M' => w.ed Γ c fs M') : DE X w (.Call (.Name x p) (e :: es) [] pos) Γ M Q := .mk fun F σ H Hb A => by
  obtain ⟨fd, f, b, _⟩ := C.ex
  refine semE_of (pe_callS f (Sx.room.mono hk) (Sx.gl x hx).1 C.gm C.kp b (fun σ => passAt A.wok σ) semA_ok (okN_d (Sx.gl x hx).2) he hpl) ?_
  exact semA_mono (h.run F σ H Hb A) fun vs H1 ⟨Hb1, ds, M1, e1, A1, r1, q1⟩ => run_spD A1 e1 r1 q1
/-- f() -/
theorem de_call0 (Sx : Sc X k0 n) (C : FnD X.prog X.w X.K X.mg X.base k x ps KW S) (hk : k ≤ k0) (hx : x ∈ n.glb) (h : S [] M Q fun c fs M' => w.ed Γ c fs M') : DE X w (.Call (.Name x p) [] [] pos) Γ M Q := .mk fun F σ H Hb A => by
  obtain ⟨fd, f, b, _⟩ := C.ex
  refine semE_of (t := fun σ H Q => spD X.K X.mg S [] H Q (WE (LiftX X w) σ)) ⟨fun pins s σ H Q I h => ?_⟩ (run_spD A (Ex.refl _) .nil h)
  refine wpAny_Call_Name_kw (ld_glob I (Sx.gl x hx).1 C.gm ?_ (okN_d (Sx.gl x hx).2))
  exact PySem.W.callWith_K0 I.kIn C.kp (run_fnS (us := []) (E := fun σ => WE (LiftX X w) σ) f (Sx.room.mono hk) b (passAt A.wok σ) I .nil h)
/-- keyword arguments -/
def semK (X : Cx) (kws : List Keyword) : TA := fun σ H Q => ∀ pos pins s, Inv X pins σ H s → wpAny (model X.prog X.w) X.A (evalAll ((backToKw pos (keywordEach kws X.env)).map (·.2))) (AP X pins σ Q) X.xe s
structure DK (X : Cx) (w : Wi) (kws : List Keyword) (Γ : Ga) (M : Mm) (Q : List D → Mm → Prop) : Prop where
  run : ∀ F σ H Hb, At X w F Hb H σ Γ M → semK X kws σ H (PostA X w F Hb σ Γ Q)
theorem semK_ok {kws : List Keyword} : PK X kws (semK X kws) := ⟨fun pos pins s σ H Q I h => h pos pins s I⟩
theorem semK_of {kws : List Keyword} {t : TA} {σ : St} {H : Hp} {Q : List V → Hp → Prop} (h : PK X kws t) (q : t σ H Q) : semK X kws σ H Q := fun pos pins s I => h.run pos pins s σ H Q I q
theorem semK_mono {kws : List Keyword} {σ : St} {H : Hp} {Q Q' : List V → Hp → Prop} (h : semK X kws σ H Q) (hq : ∀ v H', Q v H' → Q' v H') : semK X kws σ H Q' := fun pos pins s I =>
  thn (h pos pins s I) fun _ _ ⟨v, H', I', r, q⟩ => ⟨v, H', I', r, hq v H' q⟩
theorem dk_nil {Q : List D → Mm → Prop} (q : Q [] M) : DK X w [] Γ M Q := .mk fun F σ H Hb A => semK_of pk_nil ⟨Hb, [], M, Ex.refl _, A, .nil, q⟩
theorem dk_cons {Q : List D → Mm → Prop} {nm kpos} {kws : List Keyword} (h : DE X w e Γ M fun d M1 => DK X w kws Γ M1 fun ds M2 => Q (d :: ds) M2) : DK X w (⟨nm, e, kpos⟩ :: kws) Γ M Q := .mk fun F σ H Hb A => by
  refine semK_of (pk_cons semE_ok semK_ok) (semE_mono (h.run F σ H Hb A) fun v H1 ⟨Hb1, d1, M1, e1, A1, r1, q1⟩ => ?_)
  exact semK_mono (q1.run F σ H1 Hb1 A1) fun vs H2 ⟨Hb2, ds, M2, e2, A2, r2, q2⟩ => ⟨Hb2, d1 :: ds, M2, e1.trans e2, A2, .cons (r1.mono e2) r2, q2⟩
theorem reps_perm {Hb : Hp} {zs : List V} {ds : List D} {us : List Value} (r : Reps X.K X.mg Hb zs ds) (rv : Vals zs us) : ∀ {perm : List Nat}, (∀ j ∈ perm, j < ds.length) → Vals (perm.map fun j => zs.getD j .non) (perm.map fun j => us.getD j .none) ∧ Reps X.K X.mg Hb (perm.map fun j => zs.getD j .non) (perm.map fun j => ds.getD j .non)
  | [], _ => ⟨.nil, .nil⟩
  | j :: perm, h => by
    obtain ⟨h1, h2⟩ := reps_perm r rv (perm := perm) fun z hz => h z (List.mem_cons_of_mem _ hz)
    have l := h j List.mem_cons_self
    obtain ⟨v, e1, e2⟩ := r.get (List.getElem?_eq_getElem l)
    obtain ⟨u, e3, e4⟩ := rv.get e1
    refine ⟨.cons ?_ h1, .cons ?_ h2⟩
    · show RelV (zs.getD j V.non) (us.getD j Value.none)
      rw [List.getD_eq_getElem?_getD, List.getD_eq_getElem?_getD, e1, e3]; exact e4
    · show Rep X.K X.mg Hb (zs.getD j V.non) (ds.getD j D.non)
      rw [List.getD_eq_getElem?_getD, List.getD_eq_getElem?_getD, e1, List.getElem?_eq_getElem l]; exact e2
/-- f(e, .., k = v, ..) -/
theorem run_kw {pins : List (Addr × Obj)} {σ : St} {H : Hp} {s : Shared} {Q : VK} {fd : FuncData} {sp : Sp} {f : Addr} {E : XK} {us ws : List Value} {vs zs : List V} {kf : KwF} (F : FnOk X.prog X.w X.K X.mg X.base (L2.CX X.prog X.w) k f fd ps sp) (hr : Room k X.A) {dv : List Value} (hb : ∀ (s : Shared) (us ws : List Value), X.K.In s.heap → us.length = kf.n → ws.length = kf.ks.length → BindsTo s fd ⟨us, kf.ks.zip ws⟩ (ps.zip (us ++ kf.perm.map fun j => (ws ++ dv).getD j .none))) (hx : PassesAt (L2.CX X.prog X.w) X σ E)
    (I : Inv X pins σ H s) (l1 : us.length = kf.n) (l2 : ws.length = kf.ks.length) {dvs : List V} (r : Vals (vs ++ kf.perm.map fun j => (zs ++ dvs).getD j .non) (us ++ kf.perm.map fun j => (ws ++ dv).getD j .none)) (h : sp (vs ++ kf.perm.map fun j => (zs ++ dvs).getD j .non) H Q E) : wpAny (model X.prog X.w) X.A (call (.ref f) us (kf.ks.zip ws)) (EP X pins σ Q) X.xe s := by
  refine wpAny_call (codeAny_mono (F.run X.A X.stack s H ⟨us, kf.ks.zip ws⟩ _ _ Q E hr I.env0 (hb s us ws I.kIn l1 l2) r h) fun r s' hq => ?_)
  cases r with
  | error e => exact hx pins H s e s' I hq
  | ok fl =>
    cases fl with
    | ret u => exact I.after hq
    | next => exact False.elim hq
    | brk => exact False.elim hq
    | cont => exact False.elim hq
/-- f(k = v, ..): keywords alone -/
theorem de_callK0 {kws : List Keyword} {kf : KwF} (Sx : Sc X k0 n) (C : FnD X.prog X.w X.K X.mg X.base k x ps KW S) (hk : k ≤ k0) (hx : x ∈ n.glb) (hkf : kf ∈ KW) (hn : kf.n = 0) (hp : ∀ j ∈ kf.perm, j < kf.ks.length + kf.df.length)
    (hall : (backToKw pos (keywordEach kws X.env)).all (·.1.isSome) = true) (hks : (backToKw pos (keywordEach kws X.env)).filterMap (·.1) = kf.ks)
    (hpl : ((backTo pos (starEach [] X.env)).any (·.1) || (backToKw pos (keywordEach kws X.env)).any (·.1.isNone)) = false)
    (h : DK X w kws Γ M fun ds M1 => ds.length = kf.ks.length ∧ S (kf.perm.map fun j => (ds ++ kf.df).getD j .non) M1 Q fun c fs M' => w.ed Γ c fs M') : DE X w (.Call (.Name x p) [] kws pos) Γ M Q := .mk fun F σ H Hb A => by
  obtain ⟨fd, f, _, b⟩ := C.ex
  have q := h.run F σ H Hb A
  intro pins s I
  refine wpAny_Call_Name_kw (ld_glob I (Sx.gl x hx).1 C.gm ?_ (okN_d (Sx.gl x hx).2))
  refine PySem.W.callWith_KW0 (h₀ := X.base) I.ok.mod.kin C.kp hall (thn (q pos pins s I) fun ws s2 ⟨zs, H2, I2, rz, Hb2, ds, M2, e2, A2, r2, l, q2⟩ => ⟨I2.kIn, ?_⟩) hpl
  rw [hks]
  have l2 : ws.length = kf.ks.length := by rw [← rz.length, r2.length]; exact l
  obtain ⟨dv, dvs, rd, rdd, bb⟩ := b kf hkf
  obtain ⟨v1, v2⟩ := reps_perm (r2.append (rdd Hb2)) (rz.append rd) (perm := kf.perm) fun j hj => by rw [List.length_append, l]; exact hp j hj
  exact run_kw (us := []) (vs := []) f (Sx.room.mono hk) bb (passAt A.wok σ) I2 hn.symm l2 v1 (run_spD A2 e2 v2 q2)
/-- f(e, .., k = v, ..) -/
theorem de_callK {kws : List Keyword} {kf : KwF} (Sx : Sc X k0 n) (C : FnD X.prog X.w X.K X.mg X.base k x ps KW S) (hk : k ≤ k0) (hx : x ∈ n.glb) (hkf : kf ∈ KW) (hp : ∀ j ∈ kf.perm, j < kf.ks.length + kf.df.length)
    (hall : (backToKw pos (keywordEach kws X.env)).all (·.1.isSome) = true) (hks : (backToKw pos (keywordEach kws X.env)).filterMap (·.1) = kf.ks)
    (he : starEach (e :: es) X.env = (false, eval e X.env) :: starEach es X.env) (hpl : ((backTo pos (starEach (e :: es) X.env)).any (·.1) || (backToKw pos (keywordEach kws X.env)).any (·.1.isNone)) = false)
    (h : DA X w (e :: es) Γ M fun as M0 => as.length = kf.n ∧ DK X w kws Γ M0 fun ds M1 => ds.length = kf.ks.length ∧ S (as ++ kf.perm.map fun j => (ds ++ kf.df).getD j .non) M1 Q fun c fs M' => w.ed Γ c fs M') : DE X w (.Call (.Name x p) (e :: es) kws pos) Γ M Q := .mk fun F σ H Hb A => by
  obtain ⟨fd, f, _, b⟩ := C.ex
  have q := h.run F σ H Hb A
  intro pins s I
  refine wpAny_Call_Name_kw (ld_glob I (Sx.gl x hx).1 C.gm ?_ (okN_d (Sx.gl x hx).2))
  refine PySem.W.callWith_KW (h₀ := X.base) I.ok.mod.kin C.kp hall (thn (q pos pins s I) fun us s1 ⟨vs, H1, I1, rv, Hb1, as, M1, e1, A1, r1, l0, q1⟩ => ?_) hpl he
  refine thn (q1.run F σ H1 Hb1 A1 pos pins s1 I1) fun ws s2 ⟨zs, H2, I2, rz, Hb2, ds, M2, e2, A2, r2, l, q2⟩ => ⟨I2.kIn, ?_⟩
  rw [hks]
  have l1 : us.length = kf.n := by rw [← rv.length, r1.length]; exact l0
  have l2 : ws.length = kf.ks.length := by rw [← rz.length, r2.length]; exact l
  obtain ⟨dv, dvs, rd, rdd, bb⟩ := b kf hkf
  obtain ⟨v1, v2⟩ := reps_perm (r2.append (rdd Hb2)) (rz.append rd) (perm := kf.perm) fun j hj => by rw [List.length_append, l]; exact hp j hj
  exact run_kw f (Sx.room.mono hk) bb (passAt A.wok σ) I2 l1 l2 (rv.append v1) (run_spD A2 (e1.trans e2) ((r1.mono e2).append v2) q2)
end
end L3
namespace L3
open PySem PySem.Spec PyProof.Rows L2
section
variable {X : Cx} {w : Wi} {Γ Γ' : Ga} {M : Mm} {Q : D → Mm → Prop} {x : Str} {i : Nat} {d : D} {a b c e o tg iter elt : Expr} {es rest' : List Expr} {pos p p2 : Pos} {k k0 : Nat} {n : Nm} {ps : List Str} {S : SpD}

/-! ### 20. Slices -/
def cutD (xs : List D) (lo hi : Option Int) : List D := (xs.drop (HT.sIx xs.length 0 lo)).take (HT.sIx xs.length xs.length hi - HT.sIx xs.length 0 lo)
theorem Reps.cut {K : PySem.W.Frag} {mg : Str → Option Value} {Hb : Hp} {vs : List V} {ds : List D} (r : Reps K mg Hb vs ds) (lo hi : Option Int) : Reps K mg Hb (cutV vs lo hi) (cutD ds lo hi) := by
  unfold cutV cutD; rw [r.length]; exact (r.drop _).take _
def DO (X : Cx) (w : Wi) (e : Option Expr) (Γ : Ga) (M : Mm) (Q : Option Int → Mm → Prop) : Prop := match e with
  | none => Q none M
  | some e => DE X w e Γ M fun d M1 => ∃ i, d = .int i ∧ Q (some i) M1
def semSO (X : Cx) (e : Option Expr) : TO := fun σ H Q => match e with
  | none => Q none H
  | some e => semE X e σ H fun v H' => ∃ i, v = .int i ∧ Q (some i) H'
theorem semSO_ok : ∀ {e : Option Expr}, PO X e (semSO X e)
  | none => po_none
  | some e => po_some semE_ok
theorem semSO_mono {e : Option Expr} {σ : St} {H : Hp} {Q Q' : Option Int → Hp → Prop} (h : semSO X e σ H Q) (hq : ∀ o H', Q o H' → Q' o H') : semSO X e σ H Q' := by
  cases e with
  | none => exact hq _ _ h
  | some e => exact semE_mono h fun v H' ⟨i, e1, q⟩ => ⟨i, e1, hq _ _ q⟩
theorem do_run {F Hb H : Hp} {σ : St} {e : Option Expr} {Q : Option Int → Mm → Prop} (A : At X w F Hb H σ Γ M) (h : DO X w e Γ M Q) : semSO X e σ H fun i H' => ∃ Hb' M', Ex Hb Hb' ∧ At X w F Hb' H' σ Γ M' ∧ Q i M' := by
  cases e with
  | none => exact ⟨Hb, M, Ex.refl _, A, h⟩
  | some e =>
    have h : DE X w e Γ M fun d M1 => ∃ i, d = .int i ∧ Q (some i) M1 := h
    exact semE_mono (h.run F σ H Hb A) fun v H' ⟨Hb', d, M', e', A', r, i, hd, q⟩ => by
      subst hd
      cases r
      exact ⟨i, rfl, Hb', M', e', A', q⟩
/-- a[lo:hi] of lists, tuples, texts -/
def pSl : D → Option Int → Option Int → Mm → (D → Mm → Prop) → Prop
  | .lst ds, lo, hi, M, Q => Q (.lst (cutD ds lo hi)) M
  | .tup ds, lo, hi, M, Q => Q (.tup (cutD ds lo hi)) M
  | .str z, lo, hi, M, Q => z.length ≤ sizeLine ∧ Q (.str (cutS z lo hi)) M
  | .ptr p, lo, hi, M, Q => ∃ ds, M p = some (.l ds) ∧ Q (.lst (cutD ds lo hi)) M
  | .scr ns, lo, hi, M, Q => Q (.lst (cutD (ns.map .int) lo hi)) M
  | _, _, _, _, _ => False
theorem de_slice {lo hi : Option Expr} (h : DE X w a Γ M fun x M1 => DO X w lo Γ M1 fun l M2 => DO X w hi Γ M2 fun u M3 => pSl x l u M3 Q) : DE X w (.Subscript a (.Slice lo hi none p2) pos) Γ M Q := .mk fun F σ H Hb A => by
  refine semE_of (pe_slice ((sl_list.or sl_tupA).or sl_str) semE_ok semSO_ok semSO_ok) ?_
  refine semE_mono (h.run F σ H Hb A) fun v H1 ⟨Hb1, d1, M1, e1, A1, r1, q1⟩ => ?_
  refine semSO_mono (do_run A1 q1) fun l H2 ⟨Hb2, M2, e2, A2, q2⟩ => ?_
  refine semSO_mono (do_run A2 q2) fun u H3 ⟨Hb3, M3, e3, A3, q3⟩ => ?_
  have r3 := (r1.mono e2).mono e3
  have ex := (e1.trans e2).trans e3
  cases r3 with
  | lst h r => exact .inl (.inl ⟨_, _, rfl, SqL.of (A3.hs.ex _ _ h), fun p hp => A3.lst ex (r.cut l u) hp q3⟩)
  | @tup _ _ ds h r =>
    have q4 : Q (.tup (cutD ds l u)) M3 := q3
    refine .inl (.inr ⟨_, _, rfl, ex_t A3.hs.ex h, fun z => A3.val ex (.tup h r) ?_, fun _ p hp => A3.tup ex (r.cut l u) hp q4⟩)
    rw [r.length] at z
    have e : cutD ds l u = ds := by
      unfold cutD
      rw [z.1, z.2, List.drop_zero, Nat.sub_zero, List.take_of_length_le (Nat.le_refl _)]
    rw [e] at q4; exact q4
  | str => exact .inr ⟨_, rfl, q3.1, A3.val ex .str q3.2⟩
  | @ptr p =>
    obtain ⟨ds, h0, q3⟩ := q3
    obtain ⟨_, vs, h, r⟩ := A3.hs.ce _ _ h0
    exact .inl (.inl ⟨_, _, rfl, SqL.of h, fun p hp => A3.lst ex (r.cut l u) hp q3⟩)
  | scr h => exact .inl (.inl ⟨_, _, rfl, ex_l A3.hs.ex h, fun p hp => A3.lst ex (of_ints.cut l u) hp q3⟩)
  | _ => exact q3.elim

/-! ### 21. Methods of built-ins -/
/-- d is of the built-in type T -/
def D.isT (T : String) (M : Mm) : D → Prop
  | .str _ => T = "str"
  | .lst _ => T = "list"
  | .ptr p => T = "list" ∧ ∃ ds, M p = some (.l ds)
  | _ => False
theorem rep_tyV {F Hb H : Hp} {σ : St} {v : V} {T : String} (A : At X w F Hb H σ Γ M) (r : Rep X.K X.mg Hb v d) (h : d.isT T M) : tyV X.K T v H := by
  cases r with
  | str => exact h
  | lst h1 _ => exact .inl ⟨h, _, SqL.of (A.hs.ex _ _ h1)⟩
  | ptr =>
    obtain ⟨h1, ds, h2⟩ := h
    obtain ⟨_, vs, h3, _⟩ := A.hs.ce _ _ h2
    exact .inl ⟨h1, _, SqL.of h3⟩
  | _ => exact h.elim
theorem de_bm {T id : String} {name : Str} {apos cpos : Pos} {pp : PPM} (pa : PlainAttrs T) (slot : Slot T name id) (hty : typeOf (.builtin id) = pure (.type "method_descriptor")) (hm : MD X T id pp)
    (hbase : attributeBase o name X.env (eval o X.env) = eval o X.env)
    (hfew : ((backTo cpos (starEach (e :: es) X.env)).all (fun x => !x.1) && (backToKw cpos (keywordEach [] X.env)).all (fun x => x.1.isSome) && decide ((e :: es).length + ([] : List Keyword).length + (if ([] : List Keyword).isEmpty then 0 else 1) < 30)) = true)
    (hline : (apos.endLine == cpos.line) = true) (hs : starEach (e :: es) X.env = (false, eval e X.env) :: starEach es X.env) (hplain : (backTo cpos (starEach es X.env)).any (·.1) = false)
    (h : DE X w o Γ M fun x M1 => x.isT T M1 ∧ DA X w (e :: es) Γ M1 fun xs M2 => pp x xs M2 Q) : DE X w (.Call (.Attribute o name apos) (e :: es) [] cpos) Γ M Q := .mk fun F σ H Hb A => by
  refine semE_of (pe_bm pa slot hty semM_ok semE_ok semA_ok hbase hfew hline hs hplain) ?_
  refine semE_mono (h.run F σ H Hb A) fun v H1 ⟨Hb1, d1, M1, e1, A1, r1, t1, q1⟩ => ⟨rep_tyV A1 r1 t1, ?_⟩
  exact semA_mono (q1.run F σ H1 Hb1 A1) fun vs H2 ⟨Hb2, ds, M2, e2, A2, r2, q2⟩ => hm w F Hb Hb2 H2 σ Γ M2 v vs d1 ds Q A2 (e1.trans e2) (r1.mono e2) r2 q2
theorem de_bm0 {T id : String} {name : Str} {apos cpos : Pos} {pp : PPM} (pa : PlainAttrs T) (slot : Slot T name id) (hty : typeOf (.builtin id) = pure (.type "method_descriptor")) (hm : MD X T id pp)
    (hbase : attributeBase o name X.env (eval o X.env) = eval o X.env) (hline : (apos.endLine == cpos.line) = true)
    (h : DE X w o Γ M fun x M1 => x.isT T M1 ∧ pp x [] M1 Q) : DE X w (.Call (.Attribute o name apos) [] [] cpos) Γ M Q := .mk fun F σ H Hb A => by
  refine semE_of (pe_bm0 pa slot hty semM_ok semE_ok hbase hline) ?_
  exact semE_mono (h.run F σ H Hb A) fun v H1 ⟨Hb1, d1, M1, e1, A1, r1, t1, q1⟩ => ⟨rep_tyV A1 r1 t1, hm w F Hb Hb1 H1 σ Γ M1 v [] d1 [] Q A1 e1 r1 .nil q1⟩
/-- l.append(d) -/
def pAppend : PPM
  | .ptr p, [d], M, Q => ∃ ds, M p = some (.l ds) ∧ ds.length < sizeLine ∧ Q .non (M.put p (.l (ds ++ [d])))
  | _, _, _, _ => False
theorem md_append : MD X "list" "list.append" pAppend := fun w F H0 Hb H σ Γ M v vs x xs Q A e rx rs q => by
  cases rx with
  | @ptr p =>
    cases rs with
    | nil => exact q.elim
    | cons r1 r2 =>
      cases r2 with
      | cons _ _ => exact q.elim
      | nil =>
        obtain ⟨ds, h0, h1, q⟩ := q
        obtain ⟨_, us, h, r⟩ := A.hs.ce _ _ h0
        exact semM_of mt_append ⟨_, us, _, rfl, rfl, h, by rw [r.length]; exact h1, Hb, .non, _, e, A.write (c := .l (ds ++ [_])) h0 ⟨_, upd_same, r.append (.cons r1 .nil)⟩, .non, q⟩
  | _ => exact q.elim
/-- sep.join(texts) -/
def pJoin : PPM
  | .str a, [d], M, Q => ∃ ys : List Str, d.seqM M = some (ys.map .str) ∧ (ys.map (·.length)).sum + ys.length * a.length ≤ 16777216 ∧ Q (.str (Txt.join a ys)) M
  | _, _, _, _ => False
theorem md_join : MD X "str" "str.join" pJoin := fun w F H0 Hb H σ Γ M v vs x xs Q A e rx rs q => by
  cases rx with
  | str =>
    cases rs with
    | nil => exact q.elim
    | cons r1 r2 =>
      cases r2 with
      | cons _ _ => exact q.elim
      | nil =>
        obtain ⟨ys, h0, h1, q⟩ := q
        obtain ⟨p, us, rfl, h, r⟩ := rep_seqM A r1 h0
        have := reps_strs r
        subst this
        exact semM_of mt_join ⟨_, p, ys, rfl, rfl, h, h1, A.val e .str q⟩
  | _ => exact q.elim

/-! ### 22. isinstance with built-in types -/
def D.tyName (M : Mm) : D → Option String
  | .non => some "NoneType"
  | .bl _ => some "bool"
  | .int _ => some "int"
  | .str _ => some "str"
  | .tup _ => some "tuple"
  | .lst _ => some "list"
  | .dK _ => some "dict"
  | .dT _ => some "dict"
  | .ptr p => match M p with
    | some (.l _) => some "list"
    | some (.k _) => some "dict"
    | some (.t _) => some "dict"
    | _ => none
  | _ => none
theorem rep_tyX {F Hb H : Hp} {σ : St} {v : V} {T : String} (A : At X w F Hb H σ Γ M) (r : Rep X.K X.mg Hb v d) (h : d.tyName M = some T) : ∀ (pins : List (Addr × Obj)) (s : Shared) (σ' : St), Inv X pins σ' H s → TyX X.K H v (.type T) := by
  intro pins s σ' I
  cases r with
  | non => cases h; exact .base .non
  | bl => cases h; exact .base (.bl _)
  | int => cases h; exact .base (.int _)
  | str => cases h; exact .base (.str _)
  | lst h1 _ => cases h; exact .base (.lst (A.hs.ex _ _ h1))
  | dK h1 _ => cases h; exact .base (.dK (A.hs.ex _ _ h1))
  | dT h1 _ => cases h; exact .base (.dT (A.hs.ex _ _ h1))
  | tup h1 _ =>
    cases h
    rcases ex_t A.hs.ex h1 with (h2 | ⟨o, h2⟩) | ⟨o, its, n, h2, h3, _⟩
    · exact .base (.tup h2)
    · exact .fTuple h2
    · exact .kTuple h2 h3
  | @ptr p =>
    have h : (match M p with | some (.l _) => some "list" | some (.k _) => some "dict" | some (.t _) => some "dict" | _ => none) = some T := h
    cases z : M p with
    | none => rw [z] at h; cases h
    | some c =>
      rw [z] at h
      have q := (A.hs.ce _ _ z).2
      cases c with
      | l _ => cases h; obtain ⟨vs, h1, _⟩ := q; exact .base (.lst h1)
      | k _ => cases h; obtain ⟨vs, h1, _⟩ := q; exact .base (.dK h1)
      | t _ => cases h; obtain ⟨vs, h1, _⟩ := q; exact .base (.dT h1)
      | o _ _ => cases h
      | tb _ => cases h
  | exc _ _ _ => cases h
  | fn _ => cases h
  | clo _ _ => cases h
  | any => cases h
  | ty => cases h
  | scr _ => cases h
  | obj _ _ => cases h
/-- isinstance(x, T): T a built-in type, or a tuple of such -/
def isaL (T : String) : List String → Option Bool
  | [] => some false
  | c :: cs => match kitB T c with
    | some true => some true
    | some false => isaL T cs
    | none => none
def pIsi : PPL
  | [x, .ty c], M, Q => ∃ T b, x.tyName M = some T ∧ kitB T c = some b ∧ Q (.bl b) M
  | [x, .tup cs], M, Q => ∃ T b ns, cs = ns.map D.ty ∧ x.tyName M = some T ∧ isaL T ns = some b ∧ Q (.bl b) M
  | _, _, _ => False
theorem kitAny_of {K : PySem.W.Frag} {T : String} : ∀ {ns : List String} {b : Bool}, isaL T ns = some b → PySem.W.kitAny K (.type T) (ns.map Value.type) = some b
  | [], b, h => by cases h; exact kitAny_nil
  | c :: cs, b, h => by
    unfold isaL at h
    cases z : kitB T c with
    | none => rw [z] at h; cases h
    | some t =>
      rw [z] at h
      cases t with
      | true => cases h; exact kitAny_cons (kit_ty z) (fun e => by cases e) fun _ => rfl
      | false => exact kitAny_cons (kit_ty z) (fun _ => kitAny_of h) fun e => by cases e
theorem tys_vals {K : PySem.W.Frag} {mg : Str → Option Value} {Hb : Hp} : ∀ {ns : List String} {ws : List V} {its : List Value}, Reps K mg Hb ws (ns.map D.ty) → Vals ws its → its = ns.map Value.type
  | [], _, _, .nil, .nil => rfl
  | n :: ns, _, _, .cons a b, .cons c d => by
    cases a
    rw [tys_vals b d, List.map_cons, show _ = Value.type n from c]
theorem cd_isi : CD X (.builtin "isinstance") pIsi := fun w F H0 Hb H σ Γ M vs xs Q A e rs q => by
  rcases xs with _ | ⟨x, _ | ⟨y, _ | ⟨z, zs⟩⟩⟩
  · exact q.elim
  · cases rs with | cons r t => exact q.elim
  · cases rs with
    | cons r1 r2 =>
      cases r2 with
      | cons r2 r3 =>
        cases r3
        intro pins s σ' us I rv
        obtain ⟨u1, u2, rfl, v1, v2⟩ := vals2 rv
        cases y with
        | ty c =>
          obtain ⟨T, b, h1, h2, q⟩ := q
          cases r2
          have e2 : u2 = Value.type c := v2
          subst e2
          obtain ⟨P, Z, pz, hx⟩ := kit_of I v1 (rep_tyX A r1 h1 pins s σ' I)
          exact PySem.W.kia_one Z I.kIn pz (kit_ty h2) hx fun tk => ⟨.bl b, H, I.tok tk, rfl, A.val e .bl q⟩
        | tup cs =>
          obtain ⟨T, b, ns, hc, h1, h2, q⟩ := q
          subst hc
          cases r2 with
          | tup h3 h4 =>
            rename_i tp ws
            cases (show u2 = Value.ref tp from v2)
            obtain ⟨P, Z, pz, hx⟩ := kit_of I v1 (rep_tyX A r1 h1 pins s σ' I)
            obtain ⟨its, rv', ⟨o, g1, g2, n, g3⟩, _⟩ := I.tuple (ex_t A.hs.ex h3)
            have e3 : its = ns.map Value.type := tys_vals h4 rv'
            subst e3
            obtain ⟨oc, od, dt, sl⟩ := o
            simp only at g2 g3
            subst g2 g3
            exact PySem.W.kia_tup Z I.kIn pz g1 (kitAny_of h2) hx fun tk => ⟨.bl b, H, I.tok tk, rfl, A.val e .bl q⟩
        | _ => exact q.elim
  · cases y <;> exact q.elim
/-- a built-in type by its name -/
theorem de_ty {T : String} (Sx : Sc X k n) (hx : x ∈ n.glb) (hm : X.mg x = none) (hv : bootBuiltins x = some (.type T)) (q : Q (.ty T) M) : DE X w (.Name x pos) Γ M Q := .mk fun F σ H Hb A =>
  semE_of (pe_bltn (v := .ty T) (Sx.gl x hx).1 hm hv rfl (okN_n (Sx.gl x hx).2) (okN_d (Sx.gl x hx).2)) (A.val (Ex.refl _) .ty q)
end
end L3
namespace L3
open PySem PySem.Spec PyProof.Rows L2
section
variable {X : Cx} {w : Wi} {Γ Γ' Γc : Ga} {M : Mm} {Q : D → Mm → Prop} {QT : Bool → Mm → Prop} {x : Str} {i : Nat} {d : D} {a b c e o tg iter elt : Expr} {es rest' : List Expr} {pos p p2 : Pos} {k k0 : Nat} {n : Nm} {S : SpD} {P : Po} {rest : List Stmt}

/-! ### 23. The rules, with what a context gives filled in -/
theorem Sc.u65 (S : Sc X k n) : X.A.units + 65 < cLine := by have := S.room.un; omega
theorem Sc.u64 (S : Sc X k n) : X.A.units + 64 < cLine := by have := S.room.un; omega
theorem de_eq (S : Sc X k n) (h : DE X w a Γ M fun x M1 => DE X w b Γ M1 fun y M2 => pEq x y M2 Q) : DE X w (.Compare a [.Eq] [b] pos) Γ M Q := de_cmp (od_eq S.u64) (nobehind _ (by decide) (by decide)) h
theorem de_ne (S : Sc X k n) (h : DE X w a Γ M fun x M1 => DE X w b Γ M1 fun y M2 => pNe x y M2 Q) : DE X w (.Compare a [.NotEq] [b] pos) Γ M Q := de_cmp (od_ne S.u64) (nobehind _ (by decide) (by decide)) h
theorem de_in (S : Sc X k n) (hm : behindInMarks .In b = false) (h : DE X w a Γ M fun x M1 => DE X w b Γ M1 fun y M2 => pIn false x y M2 Q) : DE X w (.Compare a [.In] [b] pos) Γ M Q := de_cmp (od_in S.u65) hm h
theorem de_notin (S : Sc X k n) (hm : behindInMarks .NotIn b = false) (h : DE X w a Γ M fun x M1 => DE X w b Γ M1 fun y M2 => pIn true x y M2 Q) : DE X w (.Compare a [.NotIn] [b] pos) Γ M Q := de_cmp (od_notin S.u65) hm h
theorem dt_eq (S : Sc X k n) (h : DE X w a Γ M fun x M1 => DE X w b Γ M1 fun y M2 => pEq x y M2 fun z M3 => ∃ c, z = .bl c ∧ QT c M3) : DT X w (.Compare a [.Eq] [b] pos) Γ M QT := dt_cmp (od_eq S.u64) (nobehind _ (by decide) (by decide)) h
theorem dt_ne (S : Sc X k n) (h : DE X w a Γ M fun x M1 => DE X w b Γ M1 fun y M2 => pNe x y M2 fun z M3 => ∃ c, z = .bl c ∧ QT c M3) : DT X w (.Compare a [.NotEq] [b] pos) Γ M QT := dt_cmp (od_ne S.u64) (nobehind _ (by decide) (by decide)) h
theorem dt_in (S : Sc X k n) (hm : behindInMarks .In b = false) (h : DE X w a Γ M fun x M1 => DE X w b Γ M1 fun y M2 => pIn false x y M2 fun z M3 => ∃ c, z = .bl c ∧ QT c M3) : DT X w (.Compare a [.In] [b] pos) Γ M QT := dt_cmp (od_in S.u65) hm h
theorem dt_notin (S : Sc X k n) (hm : behindInMarks .NotIn b = false) (h : DE X w a Γ M fun x M1 => DE X w b Γ M1 fun y M2 => pIn true x y M2 fun z M3 => ∃ c, z = .bl c ∧ QT c M3) : DT X w (.Compare a [.NotIn] [b] pos) Γ M QT := dt_cmp (od_notin S.u65) hm h
theorem nobeh {op : CmpOp} (h : op ≠ .In := by decide) (h2 : op ≠ .NotIn := by decide) : behindInMarks op b = false := nobehind _ h h2
theorem de_len (S : Sc X k n) (hs : starEach [a] X.env = [(false, eval a X.env)]) (hx : ("len" : Str) ∈ n.glb) (hb : ("len" : Str) ∈ n.bts) (h : DE X w a Γ M fun d M1 => pLen d M1 Q) : DE X w (.Call (.Name "len" p) [a] [] pos) Γ M Q :=
  de_callB S hx (S.bt _ hb) PySem.boot_len cd_len hs rfl (da_cons hs (de_imp h fun d M1 q => da_nil q))
theorem boot_all : bootBuiltins ("all" : Str) = some (.builtin "all") := by kernel_rfl
theorem boot_any : bootBuiltins ("any" : Str) = some (.builtin "any") := by kernel_rfl
theorem boot_abs' : bootBuiltins ("abs" : Str) = some (.builtin "abs") := by kernel_rfl
theorem boot_isinstance' : bootBuiltins ("isinstance" : Str) = some (.builtin "isinstance") := by kernel_rfl
theorem boot_list' : bootBuiltins ("list" : Str) = some (.type "list") := by kernel_rfl
theorem boot_tuple' : bootBuiltins ("tuple" : Str) = some (.type "tuple") := by kernel_rfl
theorem boot_int' : bootBuiltins ("int" : Str) = some (.type "int") := by kernel_rfl
theorem boot_str' : bootBuiltins ("str" : Str) = some (.type "str") := by kernel_rfl
theorem boot_bool' : bootBuiltins ("bool" : Str) = some (.type "bool") := by kernel_rfl
theorem boot_dict' : bootBuiltins ("dict" : Str) = some (.type "dict") := by kernel_rfl
theorem de_all (S : Sc X k n) (hs : starEach [a] X.env = [(false, eval a X.env)]) (hx : ("all" : Str) ∈ n.glb) (hb : ("all" : Str) ∈ n.bts) (h : DE X w a Γ M fun d M1 => ∃ bs : List Bool, d = .lst (bs.map .bl) ∧ Q (.bl (bs.all id)) M1) : DE X w (.Call (.Name "all" p) [a] [] pos) Γ M Q :=
  de_callB S hx (S.bt _ hb) boot_all (cd_all S.calm) hs rfl (da_cons hs (de_imp h fun d M1 q => da_nil q))
theorem de_any (S : Sc X k n) (hs : starEach [a] X.env = [(false, eval a X.env)]) (hx : ("any" : Str) ∈ n.glb) (hb : ("any" : Str) ∈ n.bts) (h : DE X w a Γ M fun d M1 => ∃ bs : List Bool, d = .lst (bs.map .bl) ∧ Q (.bl (bs.any id)) M1) : DE X w (.Call (.Name "any" p) [a] [] pos) Γ M Q :=
  de_callB S hx (S.bt _ hb) boot_any (cd_any S.calm) hs rfl (da_cons hs (de_imp h fun d M1 q => da_nil q))
theorem de_abs (S : Sc X k n) (hs : starEach [a] X.env = [(false, eval a X.env)]) (hx : ("abs" : Str) ∈ n.glb) (hb : ("abs" : Str) ∈ n.bts) (h : DE X w a Γ M fun d M1 => pAbs d M1 Q) : DE X w (.Call (.Name "abs" p) [a] [] pos) Γ M Q :=
  de_callB S hx (S.bt _ hb) boot_abs' cd_abs hs rfl (da_cons hs (de_imp h fun d M1 q => da_nil q))
theorem de_listC (S : Sc X k n) (hs : starEach [a] X.env = [(false, eval a X.env)]) (hx : ("list" : Str) ∈ n.glb) (hb : ("list" : Str) ∈ n.bts) (h : DE X w a Γ M fun d M1 => ∃ ds, d.seqM M1 = some ds ∧ Q (.lst ds) M1) : DE X w (.Call (.Name "list" p) [a] [] pos) Γ M Q :=
  de_callT S hx (S.bt _ hb) boot_list' cd_list hs rfl (da_cons hs (de_imp h fun d M1 q => da_nil q))
theorem de_tupC (S : Sc X k n) (hs : starEach [a] X.env = [(false, eval a X.env)]) (hx : ("tuple" : Str) ∈ n.glb) (hb : ("tuple" : Str) ∈ n.bts) (h : DE X w a Γ M fun d M1 => ∃ ds, d.seqM M1 = some ds ∧ Q (.tup ds) M1) : DE X w (.Call (.Name "tuple" p) [a] [] pos) Γ M Q :=
  de_callT S hx (S.bt _ hb) boot_tuple' cd_tuple hs rfl (da_cons hs (de_imp h fun d M1 q => da_nil q))
theorem de_intC (S : Sc X k n) (hs : starEach [a] X.env = [(false, eval a X.env)]) (hx : ("int" : Str) ∈ n.glb) (hb : ("int" : Str) ∈ n.bts) (h : DE X w a Γ M fun d M1 => pInt d M1 Q) : DE X w (.Call (.Name "int" p) [a] [] pos) Γ M Q :=
  de_callT S hx (S.bt _ hb) boot_int' cd_int hs rfl (da_cons hs (de_imp h fun d M1 q => da_nil q))
theorem de_isi (S : Sc X k n) (hs : starEach [a, b] X.env = [(false, eval a X.env), (false, eval b X.env)]) (hs2 : starEach [b] X.env = [(false, eval b X.env)]) (hx : ("isinstance" : Str) ∈ n.glb) (hb : ("isinstance" : Str) ∈ n.bts) (h : DE X w a Γ M fun x M1 => DE X w b Γ M1 fun y M2 => pIsi [x, y] M2 Q) : DE X w (.Call (.Name "isinstance" p) [a, b] [] pos) Γ M Q :=
  de_callB S hx (S.bt _ hb) boot_isinstance' cd_isi (by rw [hs, hs2]) (by rw [hs2]; rfl) (da_cons (by rw [hs, hs2]) (de_imp h fun d M1 q => da_cons hs2 (de_imp q fun d M1 q => da_nil q)))
theorem de_append (hs : starEach [e] X.env = [(false, eval e X.env)]) (h : DE X w o Γ M fun x M1 => ∃ p ds, x = .ptr p ∧ M1 p = some (.l ds) ∧ DE X w e Γ M1 fun d M2 => ∃ ds, M2 p = some (.l ds) ∧ ds.length < sizeLine ∧ Q .non (M2.put p (.l (ds ++ [d])))) {apos cpos : Pos} (hbase : attributeBase o "append" X.env (eval o X.env) = eval o X.env) (hline : (apos.endLine == cpos.line) = true) : DE X w (.Call (.Attribute o "append" apos) [e] [] cpos) Γ M Q :=
  de_bm PySem.F.plainAttrs_list PySem.F.slot_list_append PySem.F.type_list_append md_append hbase (by rw [hs]; rfl) hline hs rfl (de_imp h fun x M1 ⟨p, ds, h1, h2, h3⟩ => by
    subst h1
    exact ⟨⟨rfl, ds, h2⟩, da_cons hs (de_imp h3 fun d M2 q => da_nil q)⟩)
theorem de_join (hs : starEach [e] X.env = [(false, eval e X.env)]) (h : DE X w o Γ M fun x M1 => ∃ s, x = .str s ∧ DE X w e Γ M1 fun d M2 => ∃ ys : List Str, d.seqM M2 = some (ys.map .str) ∧ (ys.map (·.length)).sum + ys.length * s.length ≤ 16777216 ∧ Q (.str (Txt.join s ys)) M2) {apos cpos : Pos} (hbase : attributeBase o "join" X.env (eval o X.env) = eval o X.env) (hline : (apos.endLine == cpos.line) = true) : DE X w (.Call (.Attribute o "join" apos) [e] [] cpos) Γ M Q :=
  de_bm PySem.F.plainAttrs_str PySem.F.slot_str_join PySem.F.type_str_join md_join hbase (by rw [hs]; rfl) hline hs rfl (de_imp h fun x M1 ⟨s, h1, h3⟩ => by
    subst h1
    exact ⟨rfl, da_cons hs (de_imp h3 fun d M2 q => da_nil q)⟩)

/-! ### 24. Two and three names at once -/
theorem Sc.blk (S : Sc X k n) {sc scope : Scope} {nb : Nm} (hsc : X.env.scope = sc) (h : scB [] (relS scope sc) nb = true) (hf : ∀ y ∈ nb.locs, scope.names.lookup y = some .cell ∨ (relS scope sc).names.lookup y = some .local) (hb : ∀ y ∈ nb.bts, y ∈ n.bts) (s0 : Shared) (H0 : Hp) (C : Addr) (cl : List (Str × Addr)) (fp : List Addr) : Sc (blkX X scope s0 H0 C cl fp) k nb := by
  have q := scB_of h
  subst hsc
  exact ⟨S.nd, S.calm, .never, S.room, q.kd, fun y hy => ⟨q.loc y hy, (hf y hy).imp (fun z => by show (scope.names.lookup y == some NameKind.cell) = true; rw [z]; rfl) fun z => z⟩, q.lcl, q.cel, fun y hy => q.gl y hy, fun y hy => S.bt y (hb y hy)⟩
theorem sw_two {env : Env} {x y : Str} {px py pt : Pos} {kt k2 pt2} (hk : env.scope.kind = .function) (hx : env.scope.names.lookup x = some .local) (hy : env.scope.names.lookup y = some .local)
    (hl : (py.line == px.line) = true) (hne : ([x, y] : List Str).eraseDups.length = 2) (h1 : ([a, b] : List Expr).any (fun | .Starred .. => true | _ => false) = false) (h2 : [a, b].all (foldedForSure 8) = false) (h3 : [a, b].all (constantsAlone 8) = false) :
    swappedStores [.Tuple [.Name x px, .Name y py] kt pt] (.Tuple [a, b] k2 pt2) env = pure (some [x, y]) := by
  have hb : env.blockKind = .function := by unfold Env.blockKind; rw [hk]; rfl
  have kx : env.kindOf x = some .local := hx
  have ky : env.kindOf y = some .local := hy
  have lx : (px.line == px.line) = true := by simp
  unfold swappedStores
  simp only [hb, List.head?_cons, Option.map_some, Expr.pos, Option.getD_some, List.filterMap_cons, List.filterMap_nil, kx, ky, lx, hl, h1, h2, h3, hne, List.length_cons, List.length_nil]
  simp at h1 hne
  simp [hne]
  intro z
  exfalso
  rcases z with z | z
  · exact Bool.false_ne_true (h1.1.symm.trans z)
  · exact Bool.false_ne_true (h1.2.symm.trans z)
theorem sw_three {env : Env} {x y z : Str} {px py pz pt : Pos} {kt k2 pt2} (hk : env.scope.kind = .function) (hx : env.scope.names.lookup x = some .local) (hy : env.scope.names.lookup y = some .local) (hz : env.scope.names.lookup z = some .local)
    (hl : (py.line == px.line) = true) (hl2 : (pz.line == px.line) = true) (hne : ([x, y, z] : List Str).eraseDups.length = 3) (h1 : ([a, b, c] : List Expr).any (fun | .Starred .. => true | _ => false) = false) (h2 : [a, b, c].all (foldedForSure 8) = false) (h3 : [a, b, c].all (constantsAlone 8) = false) :
    swappedStores [.Tuple [.Name x px, .Name y py, .Name z pz] kt pt] (.Tuple [a, b, c] k2 pt2) env = pure (some [x, y, z]) := by
  have hb : env.blockKind = .function := by unfold Env.blockKind; rw [hk]; rfl
  have kx : env.kindOf x = some .local := hx
  have ky : env.kindOf y = some .local := hy
  have kz : env.kindOf z = some .local := hz
  have lx : (px.line == px.line) = true := by simp
  unfold swappedStores
  simp only [hb, List.head?_cons, Option.map_some, Expr.pos, Option.getD_some, List.filterMap_cons, List.filterMap_nil, kx, ky, kz, lx, hl, hl2, h1, h2, h3, hne, List.length_cons, List.length_nil]
  simp at h1 hne
  simp [hne]
  intro z
  exfalso
  rcases z with z | z | z
  · exact Bool.false_ne_true (h1.1.symm.trans z)
  · exact Bool.false_ne_true (h1.2.1.symm.trans z)
  · exact Bool.false_ne_true (h1.2.2.symm.trans z)
end
end L3
namespace L3
open PySem PySem.Spec PyProof.Rows L2
theorem take_more {α : Type} : ∀ {l : List α} {i : Nat} {x : α}, l[i]? = some x → l.take (i + 1) = l.take i ++ [x]
  | [], i, x, h => by simp at h
  | a :: l, 0, x, h => by
    have e : a = x := Option.some.inj h
    subst e
    rfl
  | a :: l, i + 1, x, h => by
    have ih := take_more (l := l) (i := i) (x := x) h
    show a :: l.take (i + 1) = a :: l.take i ++ [x]
    rw [ih]
    rfl
/-- the named names as they are known in Γ -/
inductive Pk (Γ : Ga) : List Str → Ga → Prop where
  | nil : Pk Γ [] []
  | cons {x : Str} {i : Nat} {o : Option D} {xs : List Str} {Γc : Ga} : (x, i, o) ∈ Γ → Pk Γ xs Γc → Pk Γ (x :: xs) ((x, i, o) :: Γc)
theorem Pk.mem {Γ : Ga} : ∀ {xs : List Str} {Γc : Ga}, Pk Γ xs Γc → (∀ e ∈ Γc, e ∈ Γ) ∧ Γc.map (·.1) = xs
  | _, _, .nil => ⟨fun _ h => (by cases h), rfl⟩
  | _, _, .cons h t => ⟨fun e he => by
    rcases List.mem_cons.mp he with q | q
    · rw [q]; exact h
    · exact t.mem.1 e q, by rw [List.map_cons, t.mem.2]⟩
/-- the block's own names, nothing known of them -/
def ownG (own : List (Str × Nat)) : Ga := own.map fun p => (p.1, p.2, none)
/-- all that is asked of a comprehension's text -/
def lcB (N : List Str) (sc scope : Scope) (own : List (Str × Nat)) (cap : List Str) (nb : Nm) : Bool :=
  blkC N sc scope own && (scB (own.map (·.1) ++ cap) (relS scope sc) nb && (nb.locs.all (fun y => (match scope.names.lookup y with | some .cell => true | _ => false) || (match (relS scope sc).names.lookup y with | some .local => true | _ => false)) && decide (own.map (·.2)).Nodup))
structure LcB (N : List Str) (sc scope : Scope) (own : List (Str × Nat)) (cap : List Str) (nb : Nm) : Prop where
  ok : BlkOk N sc scope own
  sb : scB [] (relS scope sc) nb = true
  vis : ∀ x ∈ own.map (·.1) ++ cap, Vis (relS scope sc) x ∧ okN x = true
  loc : ∀ y ∈ nb.locs, scope.names.lookup y = some .cell ∨ (relS scope sc).names.lookup y = some .local
  nd : (own.map (·.2)).Nodup
theorem scB_less {v : List Str} {sc : Scope} {n : Nm} (h : scB v sc n = true) : scB [] sc n = true := by
  unfold scB at h ⊢
  simp only [Bool.and_eq_true] at h ⊢
  exact ⟨rfl, h.2⟩
theorem lcB_of {N : List Str} {sc scope : Scope} {own : List (Str × Nat)} {cap : List Str} {nb : Nm} (h : lcB N sc scope own cap nb = true) : LcB N sc scope own cap nb := by
  unfold lcB at h
  simp only [Bool.and_eq_true, List.all_eq_true, Bool.or_eq_true, decide_eq_true_eq] at h
  obtain ⟨h1, h2, h3, h4⟩ := h
  refine ⟨blkOk_by h1, scB_less h2, (scB_of h2).vis, fun y hy => (h3 y hy).imp (fun z => ?_) fun z => ?_, h4⟩
  · split at z <;> first | exact (Bool.false_ne_true z).elim | assumption
  · split at z <;> first | exact (Bool.false_ne_true z).elim | assumption
section
variable {X : Cx} {w : Wi} {Γ Γ' Γc : Ga} {M : Mm} {Q : D → Mm → Prop} {QT : Bool → Mm → Prop} {x v : Str} {i : Nat} {d : D} {a b c e o tg iter elt : Expr} {es rest' : List Expr} {pos p p2 vp : Pos} {k k0 : Nat} {n nb : Nm} {S : SpD} {P : Po} {rest : List Stmt} {N : List Str} {sc scope : Scope} {own : List (Str × Nat)} {cap : List Str}
theorem blkG_of (hN : X.N = N) (hsc : X.env.scope = sc) (L : LcB N sc scope own cap nb) (pk : Pk Γ cap Γc) (nd : (ownG own ++ Γc).map (·.2.1) |>.Nodup) : BlkG X.N (relS scope X.env.scope) own Γ (ownG own ++ Γc) := by
  subst hN hsc
  have ho : ∀ p ∈ own, X.N[p.2]? = some p.1 := L.ok.ix
  rw [List.map_append, List.nodup_append] at nd
  refine ⟨by rw [List.map_append, List.nodup_append]; exact nd, fun e he => ?_, fun e he => ?_⟩
  · refine L.vis e.1 ?_
    rcases List.mem_append.mp he with h | h
    · obtain ⟨p, hp, rfl⟩ := List.mem_map.mp h
      exact List.mem_append_left _ (List.mem_map.mpr ⟨p, hp, rfl⟩)
    · refine List.mem_append_right _ ?_
      rw [← pk.mem.2]
      exact List.mem_map.mpr ⟨e, h, rfl⟩
  · rcases List.mem_append.mp he with h | h
    · obtain ⟨p, hp, rfl⟩ := List.mem_map.mp h
      exact .inr ⟨rfl, ho p hp⟩
    · refine .inl ⟨pk.mem.1 e h, fun z => ?_⟩
      obtain ⟨p, hp, hpe⟩ := List.mem_map.mp z
      exact nd.2.2 _ (List.mem_map.mpr ⟨_, List.mem_map.mpr ⟨p, hp, rfl⟩, hpe⟩) _ (List.mem_map.mpr ⟨e, h, rfl⟩) rfl
/-- what a comprehension over items asks, the target a name -/
abbrev LcN (X : Cx) (w : Wi) (v : Str) (vp : Pos) (i : Nat) (iter elt : Expr) (ifs : List Expr) (scope : Scope) (k : Nat) (nb : Nm) (Γ Γc : Ga) (M : Mm) (Q : D → Mm → Prop) : Prop :=
  DI X w (.Name v vp) iter Γ M fun ds M1 => ds.length ≤ sizeLine ∧ ∃ I : Nat → List D → Mm → Prop, I 0 [] M1 ∧
    (∀ j d acc M, ds[j]? = some d → I j acc M → ∀ s0 H0 C cl fp, Sc (blkX X scope s0 H0 C cl fp) k nb → DIf (blkX X scope s0 H0 C cl fp) w.dry ifs ((v, i, some d) :: Γc) M fun t M3 =>
      (t = true → ∀ s0 H0 C cl fp, Sc (blkX X scope s0 H0 C cl fp) k nb → DE (blkX X scope s0 H0 C cl fp) w.dry elt ((v, i, some d) :: Γc) M3 fun r M4 => I (j + 1) (acc ++ [r]) M4) ∧ (t = false → I (j + 1) acc M3)) ∧ (∀ acc M, I ds.length acc M → Q (.lst acc) M)
theorem DIf.imp {X : Cx} {w : Wi} {ifs : List Expr} {Γ : Ga} {M : Mm} {Q Q' : Bool → Mm → Prop} (h : DIf X w ifs Γ M Q) (q : ∀ t M', Q t M' → Q' t M') : DIf X w ifs Γ M Q' := by
  rcases ifs with _ | ⟨c, _ | ⟨c2, cs⟩⟩
  · exact q _ _ h
  · have h : DT X w c Γ M Q := h
    exact dt_imp h q
  · exact h.elim
theorem lcN_to {ifs : List Expr} (S : Sc X k n) (hN : X.N = N) (hsc : X.env.scope = sc) (L : LcB N sc scope [(v, i)] cap nb) (hv : v ∈ nb.locs) (hb : ∀ y ∈ nb.bts, y ∈ n.bts) (h : LcN X w v vp i iter elt ifs scope k nb Γ Γc M Q) :
    LcD X w (.Name v vp) iter elt ifs scope [(v, i)] Γ (ownG [(v, i)] ++ Γc) M Q := .mk fun F σ H Hb A => by
  refine semIt_mono (h.run F σ H Hb A) fun J H1 ⟨Hb1, M1, ds, e1, A1, it, hz, I, i0, turn, fin⟩ => ⟨Hb1, M1, ds, e1, A1, it, hz, I, i0, ?_, fin⟩
  intro j d acc M2 hd q s0 H0 C cl fp
  have Sb : ∀ s0 H0 C cl fp, Sc (blkX X scope s0 H0 C cl fp) k nb := fun s0 H0 C cl fp => S.blk hsc L.sb L.loc hb s0 H0 C cl fp
  refine dgv_name (Sb s0 H0 C cl fp) Put.here hv (by simp) ?_
  intro s1 H1' C1 cl1 fp1
  exact DIf.imp (turn j d acc M2 hd q s1 H1' C1 cl1 fp1 (Sb s1 H1' C1 cl1 fp1)) fun t M3 ⟨z1, z2⟩ => ⟨fun e s2 H2 C2 cl2 fp2 => z1 e s2 H2 C2 cl2 fp2 (Sb s2 H2 C2 cl2 fp2), z2⟩
/-- [elt for v in iter if ..] -/
theorem de_lcN {ifs : List Expr} (S : Sc X k n) (hN : X.N = N) (hsc : X.env.scope = sc) (i : Nat) (cap : List Str) (nb : Nm) (chk : lcB N sc scope [(v, i)] cap nb = true) (hv : v ∈ nb.locs) (hb : ∀ y ∈ nb.bts, y ∈ n.bts) (pk : Pk Γ cap Γc) (nd : ((ownG [(v, i)] ++ Γc).map (·.2.1)).Nodup)
    (hs : ∀ x, foldedSetIterable iter X.env x = pure x) (h : LcN X w v vp i iter elt ifs scope k nb Γ Γc M Q) : DE X w (.ListComp elt [⟨.Name v vp, iter, ifs, 0⟩] scope pos) Γ M Q :=
  have L := lcB_of chk
  de_lc S (by subst hN hsc; exact L.ok) (blkG_of hN hsc L pk nd) hs (lcN_to S hN hsc L hv hb h)
/-- y = [elt for v in iter if ..] on one line, y a plain local -/
theorem ds_lcN {ifs : List Expr} {y : Str} {iy : Nat} {py spos : Pos} (S : Sc X k n) (hN : X.N = N) (hsc : X.env.scope = sc) (i : Nat) (cap : List Str) (nb : Nm) (chk : lcB N sc scope [(v, i)] cap nb = true) (hv : v ∈ nb.locs) (hb : ∀ y ∈ nb.bts, y ∈ n.bts) (pk : Pk Γ cap Γc) (nd : ((ownG [(v, i)] ++ Γc).map (·.2.1)).Nodup)
    (hy : y ∈ n.lcl) {o : Option D} (hm : (y, iy, o) ∈ Γ) (hl : (py.line == pos.line) = true) (hny : (scope.names.any fun (n, k) => n == y && (k == .local || k == .cell)) = false)
    (hs : ∀ x, foldedSetIterable iter X.env x = pure x) (h : LcN X w v vp i iter elt ifs scope k nb Γ Γc M fun d M1 => ∃ Γ', Put Γ y d Γ' iy ∧ DS X w rest Γ' M1 P) :
    DS X w (.Assign [.Name y py] (.ListComp elt [⟨.Name v vp, iter, ifs, 0⟩] scope pos) spos :: rest) Γ M P :=
  have L := lcB_of chk
  ds_setLc S hm (S.lcl y hy) (sw_true S.kd (S.lcl y hy) hl hny) (by subst hN hsc; exact L.ok) (blkG_of hN hsc L pk nd) hs (lcN_to S hN hsc L hv hb h)
/-- the same over a typed list, the memory as it is: map (and filter) -/
theorem lcN_map {α : Type} {iter elt : Expr} (xs : List α) (f g : α → D) (hz : xs.length ≤ sizeLine) (hi : DI X w (.Name v vp) iter Γ M fun ds M1 => ds = xs.map f ∧ M1 = M)
    (he : ∀ x ∈ xs, ∀ s0 H0 C cl fp, Sc (blkX X scope s0 H0 C cl fp) k nb → DE (blkX X scope s0 H0 C cl fp) w.dry elt ((v, i, some (f x)) :: Γc) M fun r M4 => r = g x ∧ M4 = M) (q : Q (.lst (xs.map g)) M) : LcN X w v vp i iter elt [] scope k nb Γ Γc M Q := .mk fun F σ H Hb A => by
  refine semIt_mono (hi.run F σ H Hb A) fun J H1 ⟨Hb1, M1, ds, e1, A1, it, hds, hM⟩ => ?_
  subst hds hM
  refine ⟨Hb1, M1, _, e1, A1, it, by simpa using hz, fun j acc M' => acc = (xs.take j).map g ∧ M' = M1, ⟨rfl, rfl⟩, ?_, fun acc M' ⟨h1, h2⟩ => by
    subst h1 h2
    rw [List.length_map, List.take_length]; exact q⟩
  rintro j d acc M' hd ⟨rfl, rfl⟩ s0 H0 C cl fp Sb
  rw [List.getElem?_map] at hd
  cases z : xs[j]? with
  | none => rw [z] at hd; cases hd
  | some x =>
    rw [z] at hd
    cases hd
    refine ⟨fun _ s1 H1 C1 cl1 fp1 Sb1 => de_imp (he x (List.mem_of_getElem? z) s1 H1 C1 cl1 fp1 Sb1) fun r M4 ⟨h1, h2⟩ => ?_, fun z => by cases z⟩
    subst h1 h2
    refine ⟨?_, rfl⟩
    rw [take_more z, List.map_append]; rfl
theorem lcN_filter {α : Type} {iter elt c : Expr} (xs : List α) (f g : α → D) (p : α → Bool) (hz : xs.length ≤ sizeLine) (hi : DI X w (.Name v vp) iter Γ M fun ds M1 => ds = xs.map f ∧ M1 = M)
    (hc : ∀ x ∈ xs, ∀ s0 H0 C cl fp, Sc (blkX X scope s0 H0 C cl fp) k nb → DT (blkX X scope s0 H0 C cl fp) w.dry c ((v, i, some (f x)) :: Γc) M fun t M4 => t = p x ∧ M4 = M)
    (he : ∀ x ∈ xs, p x = true → ∀ s0 H0 C cl fp, Sc (blkX X scope s0 H0 C cl fp) k nb → DE (blkX X scope s0 H0 C cl fp) w.dry elt ((v, i, some (f x)) :: Γc) M fun r M4 => r = g x ∧ M4 = M) (q : Q (.lst ((xs.filter p).map g)) M) : LcN X w v vp i iter elt [c] scope k nb Γ Γc M Q := .mk fun F σ H Hb A => by
  refine semIt_mono (hi.run F σ H Hb A) fun J H1 ⟨Hb1, M1, ds, e1, A1, it, hds, hM⟩ => ?_
  subst hds hM
  refine ⟨Hb1, M1, _, e1, A1, it, by simpa using hz, fun j acc M' => acc = ((xs.take j).filter p).map g ∧ M' = M1, ⟨rfl, rfl⟩, ?_, fun acc M' ⟨h1, h2⟩ => by
    subst h1 h2
    rw [List.length_map, List.take_length]; exact q⟩
  rintro j d acc M' hd ⟨rfl, rfl⟩ s0 H0 C cl fp Sb
  rw [List.getElem?_map] at hd
  cases z : xs[j]? with
  | none => rw [z] at hd; cases hd
  | some x =>
    rw [z] at hd
    cases hd
    have tk := take_more z
    have hc' := hc x (List.mem_of_getElem? z) s0 H0 C cl fp Sb
    show DT _ _ c _ _ _
    refine dt_imp hc' fun t M4 ⟨h1, h2⟩ => ?_
    subst h1 h2
    refine ⟨fun ht s1 H1 C1 cl1 fp1 Sb1 => de_imp (he x (List.mem_of_getElem? z) ht s1 H1 C1 cl1 fp1 Sb1) fun r M4 ⟨h1, h2⟩ => ?_, fun ht => ⟨?_, rfl⟩⟩
    · subst h1 h2
      refine ⟨?_, rfl⟩
      rw [tk, List.filter_append, List.filter_cons, if_pos ht, List.map_append]; rfl
    · rw [tk, List.filter_append, List.filter_cons, if_neg (by rw [ht]; exact Bool.false_ne_true), List.filter_nil, List.append_nil]
/-! two and three names -/
theorem ds_par2 {x y : Str} {j : Nat} {px py pt : Pos} {kt k2 pt2} (S : Sc X k n) {o o' : Option D} (hx : (x, i, o) ∈ Γ) (hy : (y, j, o') ∈ Γ) (hij : i ≠ j) (lx : x ∈ n.lcl) (ly : y ∈ n.lcl)
    (hl : (py.line == px.line) = true) (hne : ([x, y] : List Str).eraseDups.length = 2) (h1 : ([a, b] : List Expr).any (fun | .Starred .. => true | _ => false) = false) (h2 : [a, b].all (foldedForSure 8) = false) (h3 : [a, b].all (constantsAlone 8) = false)
    (hs : swapsWithSole [.Tuple [.Name x px, .Name y py] kt pt] (.Tuple [a, b] k2 pt2) pos.line X.env = pure false)
    (h : DA X w [a, b] Γ M fun ds M1 => ∃ d1 d2 Γ1 Γ2, ds = [d1, d2] ∧ Put Γ x d1 Γ1 i ∧ Put Γ1 y d2 Γ2 j ∧ DS X w rest Γ2 M1 P) : DS X w (.Assign [.Tuple [.Name x px, .Name y py] kt pt] (.Tuple [a, b] k2 pt2) pos :: rest) Γ M P :=
  ds_par S hx hy hij (S.lcl x lx) (S.lcl y ly) (sw_two S.kd (S.lcl x lx) (S.lcl y ly) hl hne h1 h2 h3) hs h
theorem ds_par3' {x y z : Str} {j l : Nat} {px py pz pt : Pos} {kt k2 pt2} (S : Sc X k n) {o o' o'' : Option D} (hx : (x, i, o) ∈ Γ) (hy : (y, j, o') ∈ Γ) (hz : (z, l, o'') ∈ Γ) (hij : i ≠ j) (hil : i ≠ l) (hjl : j ≠ l) (lx : x ∈ n.lcl) (ly : y ∈ n.lcl) (lz : z ∈ n.lcl)
    (hl : (py.line == px.line) = true) (hl2 : (pz.line == px.line) = true) (hne : ([x, y, z] : List Str).eraseDups.length = 3) (h1 : ([a, b, c] : List Expr).any (fun | .Starred .. => true | _ => false) = false) (h2 : [a, b, c].all (foldedForSure 8) = false) (h3 : [a, b, c].all (constantsAlone 8) = false)
    (hs : swapsWithSole [.Tuple [.Name x px, .Name y py, .Name z pz] kt pt] (.Tuple [a, b, c] k2 pt2) pos.line X.env = pure false)
    (h : DA X w [a, b, c] Γ M fun ds M1 => ∃ d1 d2 d3 Γ1 Γ2 Γ3, ds = [d1, d2, d3] ∧ Put Γ x d1 Γ1 i ∧ Put Γ1 y d2 Γ2 j ∧ Put Γ2 z d3 Γ3 l ∧ DS X w rest Γ3 M1 P) : DS X w (.Assign [.Tuple [.Name x px, .Name y py, .Name z pz] kt pt] (.Tuple [a, b, c] k2 pt2) pos :: rest) Γ M P :=
  ds_par3 S hx hy hz hij hil hjl (S.lcl x lx) (S.lcl y ly) (S.lcl z lz) (sw_three S.kd (S.lcl x lx) (S.lcl y ly) (S.lcl z lz) hl hl2 hne h1 h2 h3) hs h
end
end L3
namespace L3
open PySem PySem.Spec PyProof.Rows L2
section
variable {X : Cx} {w : Wi} {Γ Γ' Γc : Ga} {M : Mm} {Q : D → Mm → Prop} {x : Str} {i : Nat} {d : D} {a b c e o tg : Expr} {pos p p2 : Pos} {k : Nat} {n : Nm} {P : Po} {rest : List Stmt} {QG : Ga → Mm → Prop}
/-- o[i] = .., o a list that changes -/
theorem dg_sub (ha : ∀ v, assign (.Subscript o a pos) X.env v = (do
      let ov ← holding [v] (eval o X.env)
      let iv ← holding [v, ov] (eval a X.env)
      standAt pos
      holding [v, ov, iv] (setItem ov iv v)
      release [v, ov, iv] []))
    (h : DE X w o Γ M fun y M1 => DE X w a Γ M1 fun z M2 => ∃ p j k ds, y = .ptr p ∧ z = .int k ∧ M2 p = some (.l ds) ∧ ixN ds.length k = some j ∧ QG Γ (M2.put p (.l (ds.set j d)))) : DG X w (.Subscript o a pos) d Γ M QG := .mk fun F σ H Hb v A r => by
  refine semG_of (pg_sub semE_ok semE_ok set_list ha) ?_
  refine semE_mono (h.run F σ H Hb A) fun v1 H1 ⟨Hb1, d1, M1, e1, A1, r1, q1⟩ => ?_
  refine semE_mono (q1.run F σ H1 Hb1 A1) fun v2 H2 ⟨Hb2, d2, M2, e2, A2, r2, p, j, k, ds, h1, h2, h3, h4, q2⟩ => ?_
  subst h1 h2
  rw [rep_ptr r1]
  cases r2
  obtain ⟨_, us, g, rr⟩ := A2.hs.ce _ _ h3
  refine ⟨p, us, k, j, rfl, rfl, g, by rw [rr.length]; exact h4, ?_⟩
  exact ⟨Hb2, Γ, _, e1.trans e2, A2.write (c := .l (ds.set j d)) h3 ⟨_, upd_same, rr.set ((r.mono e1).mono e2) j⟩, q2⟩
theorem Mm.put_id {M : Mm} {p : Addr} {c : Cell} (h : M p = some c) : M.put p c = M := by
  funext a; unfold Mm.put; split
  · rename_i e; rw [e, h]
  · rfl
end

/-! ### 25. The law's bag -/
/-- what stands in the bag: the cells, the next one's place, the rest of a great cell, a mixed number -/
structure Bag where
  cells : List Int
  nx : Int
  gr : Int
  mx : Int
  h1 : 0 ≤ nx
  h2 : nx ≤ cells.length
  h3 : 0 ≤ gr
  h4 : 0 ≤ mx
  h5 : mx < 2147483648
  h6 : cells.length ≤ 63
def Bag.cell (b : Bag) : Cell := .l [.lst (b.cells.map .int), .int b.nx, .int b.gr, .int b.mx]
/-- the memory with the bag at p -/
abbrev Mm.bag (M : Mm) (p : Addr) (b : Bag) : Mm := M.put p b.cell
theorem cutD_to {ds : List D} {n : Nat} : cutD ds none (some (n : Int)) = ds.take n := by
  unfold cutD
  rw [HT.sIx_none, HT.sIx_nat, List.drop_zero, Nat.sub_zero]
  by_cases h : n ≤ ds.length
  · rw [Nat.min_eq_left h]
  · rw [Nat.min_eq_right (by omega), List.take_of_length_le (Nat.le_refl _), List.take_of_length_le (by omega)]
theorem cutD_from {ds : List D} {n : Nat} : cutD ds (some (n : Int)) none = ds.drop n := by
  unfold cutD
  rw [HT.sIx_none, HT.sIx_nat]
  by_cases h : n ≤ ds.length
  · rw [Nat.min_eq_left h, List.take_of_length_le (by rw [List.length_drop]; omega)]
  · rw [Nat.min_eq_right (by omega), List.drop_of_length_le (Nat.le_refl _), List.drop_of_length_le (by omega), List.take_nil]
theorem pow18 : ((10 : Int) ^ (18 : Int).toNat) = 1000000000000000000 := by decide +kernel
end L3
namespace L3
open PySem PySem.Spec PyProof.Rows L2

/-! ### 26. The bag somewhere, the rest as it was -/
def BagAt (M : Mm) (p : Addr) : Prop := ∃ b : Bag, M p = some b.cell
def Keep (p : Addr) (M M' : Mm) : Prop := ∀ q, q ≠ p → M' q = M q
theorem Keep.refl (p : Addr) (M : Mm) : Keep p M M := fun _ _ => rfl
theorem Keep.trans {p : Addr} {M M1 M2 : Mm} (a : Keep p M M1) (b : Keep p M1 M2) : Keep p M M2 := fun q h => (b q h).trans (a q h)
theorem Keep.put {p : Addr} {M : Mm} {c : Cell} : Keep p M (M.put p c) := fun q h => Mm.put_ne h
theorem BagAt.put {p : Addr} {M : Mm} {b : Bag} : BagAt (M.bag p b) p := ⟨b, Mm.put_same⟩
theorem Bag.of {p : Addr} {M : Mm} {b : Bag} (h : M p = some b.cell) : M = M.bag p b := by
  funext a; unfold Mm.bag Mm.put; split
  · rename_i e; rw [e, h]
  · rfl
theorem BagAt.other {p q : Addr} {M : Mm} {c : Cell} (h : BagAt M p) (n : p ≠ q) : BagAt (M.put q c) p := by
  obtain ⟨b, hb⟩ := h; exact ⟨b, by rw [Mm.put_ne n]; exact hb⟩
theorem BagAt.ne {p q : Addr} {M : Mm} (h : BagAt M p) (n : M q = none) : p ≠ q := by
  obtain ⟨b, hb⟩ := h; intro e; rw [e, n] at hb; cases hb
/-- a drawn number: what stays is told -/
def dDraw (p : Addr) (m : Int) (M : Mm) (Q : D → Mm → Prop) : Prop := ∀ (i : Int) (M' : Mm), 0 ≤ i → i < m → BagAt M' p → Keep p M M' → Q (.int i) M'

/-! ### 27. A def at the top -/
theorem bts_nil {mg : Str → Option Value} : ∀ x ∈ ([] : List Str), mg x = none := fun _ h => nomatch h
theorem bts_cons {mg : Str → Option Value} {x : Str} {l : List Str} (h : mg x = none) (t : ∀ y ∈ l, mg y = none) : ∀ y ∈ x :: l, mg y = none := fun y hy => by
  rcases List.mem_cons.mp hy with q | q
  · rw [q]; exact h
  · exact t y q
theorem kw_nil {K : PySem.W.Frag} {mg : Str → Option Value} {fd : FuncData} {ps : List Str} : ∀ f ∈ ([] : List KwF), KB K mg fd ps f := fun _ h => nomatch h
theorem kw_cons {K : PySem.W.Frag} {mg : Str → Option Value} {fd : FuncData} {ps : List Str} {f : KwF} {l : List KwF} (h : KB K mg fd ps f) (t : ∀ g ∈ l, KB K mg fd ps g) : ∀ g ∈ f :: l, KB K mg fd ps g := fun y hy => by
  rcases List.mem_cons.mp hy with q | q
  · rw [q]; exact h
  · exact t y q
theorem _root_.L2.Fun.kbs {K : PySem.W.Frag} {mg : Str → Option Value} {x qual : Str} {st : Stmt} {f : Addr} {fd : FuncData} (F : Fun K x qual st f fd) {ps : List Str} {KW : List KwF}
    (h : ∀ (kV doc pm : Value) (an : Option Addr) (cdv ct : Value), ∀ f ∈ KW, KB K mg (PySem.W.fnOf x qual (defArgs st) (defBody st) (defScope st) .none kV doc pm an cdv ct) ps f) : ∀ f ∈ KW, KB K mg fd ps f := by
  obtain ⟨oc, od, kV, doc, pm, an, cdv, ct, osl, rfl, lk, hcd⟩ := F.ex
  exact h _ _ _ _ _ _
/-- a def as the module holds it -/
structure TopFn (K : PySem.W.Frag) (mg : Str → Option Value) (x : Str) (st : Stmt) : Prop where
  gm : mg x = some (.ref (ca mg x))
  ex : ∃ fd, Fun K x x st (ca mg x) fd
theorem topFn {K : PySem.W.Frag} {h : Heap} {mg : Str → Option Value} {f : Addr} {x : Str} {st : Stmt} (X : K.In h) (G : h.Ns mainGlobals mg) {oc : Value} {od an : Option Addr} {osl : Array (Option Value)} {kV doc pm cdv ct : Value}
    (a : PySem.W.nsIn K mainGlobals x = some (some (.ref f))) (l : K.lookup f = some ⟨oc, od, .func (PySem.W.fnOf x x (defArgs st) (defBody st) (defScope st) .none kV doc pm an cdv ct), osl⟩)
    (c : PySem.W.codeIn K cdv x = true) (k : PySem.W.keepIn K (.ref f) = true) : TopFn K mg x st := by
  have g := PySem.W.mg_of X G a
  have e : ca mg x = f := by unfold ca; rw [g]
  exact ⟨by rw [e]; exact g, ⟨_, by rw [e]; exact fun_mk l c k⟩⟩

/-! ### 28. A comprehension over pairs -/
section
variable {X : Cx} {w : Wi} {Γ Γ' Γc : Ga} {M : Mm} {Q : D → Mm → Prop} {QT : Bool → Mm → Prop} {x v u : Str} {i j : Nat} {d : D} {a b c e o tg iter elt : Expr} {es rest' : List Expr} {pos p p2 vp up tp : Pos} {k k0 tk : Nat} {n nb : Nm} {S : SpD} {P : Po} {rest : List Stmt} {N : List Str} {sc scope : Scope} {own : List (Str × Nat)} {cap : List Str}
abbrev LcT (X : Cx) (w : Wi) (v : Str) (vp : Pos) (i : Nat) (u : Str) (up : Pos) (j : Nat) (tk : Nat) (tp : Pos) (iter elt : Expr) (ifs : List Expr) (scope : Scope) (k : Nat) (nb : Nm) (Γ Γc : Ga) (M : Mm) (Q : D → Mm → Prop) : Prop :=
  DI X w (.Tuple [.Name v vp, .Name u up] tk tp) iter Γ M fun ds M1 => ds.length ≤ sizeLine ∧ ∃ I : Nat → List D → Mm → Prop, I 0 [] M1 ∧
    (∀ jj d acc M, ds[jj]? = some d → I jj acc M → ∃ d1 d2, d.seq = some [d1, d2] ∧ ∀ s0 H0 C cl fp, Sc (blkX X scope s0 H0 C cl fp) k nb → DIf (blkX X scope s0 H0 C cl fp) w.dry ifs ((v, i, some d1) :: (u, j, some d2) :: Γc) M fun t M3 =>
      (t = true → ∀ s0 H0 C cl fp, Sc (blkX X scope s0 H0 C cl fp) k nb → DE (blkX X scope s0 H0 C cl fp) w.dry elt ((v, i, some d1) :: (u, j, some d2) :: Γc) M3 fun r M4 => I (jj + 1) (acc ++ [r]) M4) ∧ (t = false → I (jj + 1) acc M3)) ∧ (∀ acc M, I ds.length acc M → Q (.lst acc) M)
theorem lcT_to {ifs : List Expr} (S : Sc X k n) (hN : X.N = N) (hsc : X.env.scope = sc) (L : LcB N sc scope [(v, i), (u, j)] cap nb) (hv : v ∈ nb.locs) (hu : u ∈ nb.locs) (hij : i ≠ j) (hb : ∀ y ∈ nb.bts, y ∈ n.bts)
    (hes : ∀ s0 H0 C cl fp, assignEach [.Name v vp, .Name u up] (blkX X scope s0 H0 C cl fp).env = [(false, assign (.Name v vp) (blkX X scope s0 H0 C cl fp).env), (false, assign (.Name u up) (blkX X scope s0 H0 C cl fp).env)])
    (hes2 : ∀ s0 H0 C cl fp, assignEach [.Name u up] (blkX X scope s0 H0 C cl fp).env = [(false, assign (.Name u up) (blkX X scope s0 H0 C cl fp).env)]) (hes3 : ∀ s0 H0 C cl fp, assignEach [] (blkX X scope s0 H0 C cl fp).env = [])
    (h : LcT X w v vp i u up j tk tp iter elt ifs scope k nb Γ Γc M Q) :
    LcD X w (.Tuple [.Name v vp, .Name u up] tk tp) iter elt ifs scope [(v, i), (u, j)] Γ (ownG [(v, i), (u, j)] ++ Γc) M Q := .mk fun F σ H Hb A => by
  refine semIt_mono (h.run F σ H Hb A) fun J H1 ⟨Hb1, M1, ds, e1, A1, it, hz, I, i0, turn, fin⟩ => ⟨Hb1, M1, ds, e1, A1, it, hz, I, i0, ?_, fin⟩
  intro jj d acc M2 hd q s0 H0 C cl fp
  have Sb : ∀ s0 H0 C cl fp, Sc (blkX X scope s0 H0 C cl fp) k nb := fun s0 H0 C cl fp => S.blk hsc L.sb L.loc hb s0 H0 C cl fp
  obtain ⟨d1, d2, hs, q⟩ := turn jj d acc M2 hd q
  refine dgv_tup (Sb s0 H0 C cl fp) hs (by rw [hes]; rfl) (by rw [hes]; rfl) ?_
  refine dgs_cons (by rw [hes, hes2]; rfl) ?_
  refine dgv_name (Sb s0 H0 C cl fp) Put.here hv (by simp) ?_
  refine dgs_cons (by rw [hes2, hes3]; rfl) ?_
  refine dgv_name (Sb s0 H0 C cl fp) (Put.there Put.here) hu (by simp) ?_
  refine dgs_nil ?_
  intro s1 H1' C1 cl1 fp1
  exact DIf.imp (q s1 H1' C1 cl1 fp1 (Sb s1 H1' C1 cl1 fp1)) fun t M3 ⟨z1, z2⟩ => ⟨fun e s2 H2 C2 cl2 fp2 => z1 e s2 H2 C2 cl2 fp2 (Sb s2 H2 C2 cl2 fp2), z2⟩
theorem de_lcT {ifs : List Expr} (S : Sc X k n) (hN : X.N = N) (hsc : X.env.scope = sc) (i j : Nat) (cap : List Str) (nb : Nm) (chk : lcB N sc scope [(v, i), (u, j)] cap nb = true) (hv : v ∈ nb.locs) (hu : u ∈ nb.locs) (hij : i ≠ j) (hb : ∀ y ∈ nb.bts, y ∈ n.bts) (pk : Pk Γ cap Γc) (nd : ((ownG [(v, i), (u, j)] ++ Γc).map (·.2.1)).Nodup)
    (hes : ∀ s0 H0 C cl fp, assignEach [.Name v vp, .Name u up] (blkX X scope s0 H0 C cl fp).env = [(false, assign (.Name v vp) (blkX X scope s0 H0 C cl fp).env), (false, assign (.Name u up) (blkX X scope s0 H0 C cl fp).env)])
    (hes2 : ∀ s0 H0 C cl fp, assignEach [.Name u up] (blkX X scope s0 H0 C cl fp).env = [(false, assign (.Name u up) (blkX X scope s0 H0 C cl fp).env)]) (hes3 : ∀ s0 H0 C cl fp, assignEach [] (blkX X scope s0 H0 C cl fp).env = [])
    (hs : ∀ x, foldedSetIterable iter X.env x = pure x) (h : LcT X w v vp i u up j tk tp iter elt ifs scope k nb Γ Γc M Q) : DE X w (.ListComp elt [⟨.Tuple [.Name v vp, .Name u up] tk tp, iter, ifs, 0⟩] scope pos) Γ M Q :=
  have L := lcB_of chk
  de_lc S (by subst hN hsc; exact L.ok) (blkG_of hN hsc L pk nd) hs (lcT_to S hN hsc L hv hu hij hb hes hes2 hes3 h)
end

section
variable {X : Cx} {w : Wi} {Γ : Ga} {M : Mm} {e : Expr}
/-- a slice's end -/
def pO : D → Mm → (Option Int → Mm → Prop) → Prop
  | .int i, M, Q => Q (some i) M
  | _, _, _ => False
theorem do_none {Q : Option Int → Mm → Prop} (q : Q none M) : DO X w none Γ M Q := q
theorem do_some {Q : Option Int → Mm → Prop} (h : DE X w e Γ M fun d M1 => pO d M1 Q) : DO X w (some e) Γ M Q := show DE X w e Γ M fun d M1 => ∃ i, d = .int i ∧ Q (some i) M1 from de_imp h fun d M1 q => by
  cases d <;> first | exact ⟨_, rfl, q⟩ | exact q.elim
end
/-! ### wishes by a name: what follows stays out of sight -/
structure GnE (Q Q' : D → Mm → Prop) : Prop where
  go : ∀ d M, Q d M → Q' d M
structure GnT (Q Q' : Bool → Mm → Prop) : Prop where
  go : ∀ d M, Q d M → Q' d M
structure GnP (P P' : Po) : Prop where
  nx : ∀ Γ M, P.nx Γ M → P'.nx Γ M
  rt : ∀ Γ M, P.rt Γ M → P'.rt Γ M
  bk : ∀ Γ M, P.bk Γ M → P'.bk Γ M
  ct : ∀ Γ M, P.ct Γ M → P'.ct Γ M
section
variable {X : Cx} {w : Wi} {Γ : Ga} {M : Mm} {Q Q' : D → Mm → Prop} {QT QT' : Bool → Mm → Prop} {e : Expr} {P P' : Po} {sts : List Stmt} {d : D} {t : Bool}
theorem de_gen (h : ∀ Q', GnE Q Q' → DE X w e Γ M Q') : DE X w e Γ M Q := h Q ⟨fun _ _ q => q⟩
theorem dt_gen (h : ∀ Q', GnT QT Q' → DT X w e Γ M Q') : DT X w e Γ M QT := h QT ⟨fun _ _ q => q⟩
theorem ds_gen (h : ∀ P', GnP P P' → DS X w sts Γ M P') : DS X w sts Γ M P := h P ⟨fun _ _ q => q, fun _ _ q => q, fun _ _ q => q, fun _ _ q => q⟩
theorem fnE (h : GnE Q Q') (q : Q d M) : Q' d M := h.go _ _ q
theorem fnT (h : GnT QT QT') (q : QT t M) : QT' t M := h.go _ _ q
theorem fnN (h : GnP P P') (q : P.nx Γ M) : P'.nx Γ M := h.nx _ _ q
theorem fnR (h : GnP P P') (q : P.rt d M) : P'.rt d M := h.rt _ _ q
theorem fnB (h : GnP P P') (q : P.bk Γ M) : P'.bk Γ M := h.bk _ _ q
theorem fnC (h : GnP P P') (q : P.ct Γ M) : P'.ct Γ M := h.ct _ _ q
end
/-! ### heads -/
theorem nP {A : Prop} (h : A) : A := h

section
variable {X : Cx} {w : Wi} {Γ : Ga} {M : Mm} {Q : D → Mm → Prop} {QT : Bool → Mm → Prop} {e a b : Expr} {P : Po} {sts : List Stmt} {x : Str} {p : Pos}
theorem hE (h : DE X w e Γ M Q) : DE X w e Γ M Q := h
theorem hT (h : DT X w e Γ M QT) : DT X w e Γ M QT := h
theorem hS (h : DS X w sts Γ M P) : DS X w sts Γ M P := h
theorem hE_name (h : DE X w (.Name x p) Γ M Q) : DE X w (.Name x p) Γ M Q := h
theorem hE_cmp {os : List CmpOp} {cs : List Expr} (h : DE X w (.Compare a os cs p) Γ M Q) : DE X w (.Compare a os cs p) Γ M Q := h
theorem hT_cmp {os : List CmpOp} {cs : List Expr} (h : DT X w (.Compare a os cs p) Γ M QT) : DT X w (.Compare a os cs p) Γ M QT := h
theorem hE_bin {o : Operator} (h : DE X w (.BinOp a o b p) Γ M Q) : DE X w (.BinOp a o b p) Γ M Q := h
theorem hE_call {as : List Expr} {ks : List Keyword} (h : DE X w (.Call a as ks p) Γ M Q) : DE X w (.Call a as ks p) Γ M Q := h
end
section
variable {X : Cx} {w : Wi} {Γ : Ga} {M : Mm} {P : Po} {rest : List Stmt} {d : D} 
theorem po_nx (h : DS X w rest Γ M P) : (P.then X w rest).nx Γ M := h
theorem po_rt (h : P.rt d M) : (P.then X w rest).rt d M := h
theorem po_bk (h : P.bk Γ M) : (P.then X w rest).bk Γ M := h
theorem po_ct (h : P.ct Γ M) : (P.then X w rest).ct Γ M := h
theorem pol_nx (h : P.nx Γ M) : P.nx Γ M := h
theorem pol_rt (h : P.rt d M) : P.rt d M := h
theorem pol_bk (h : P.bk Γ M) : P.bk Γ M := h
theorem pol_ct (h : P.ct Γ M) : P.ct Γ M := h
end
/-! ### plain forms -/
theorem px_const {c : Const} {k : Nat} {p : Pos} : PlainIx (.Constant c k p) := fun _ _ => rfl
theorem px_name {x : Str} {p : Pos} : PlainIx (.Name x p) := fun _ _ => rfl
theorem px_bin {a b : Expr} {op : Operator} {p : Pos} : PlainIx (.BinOp a op b p) := fun _ _ => rfl
theorem px_una {a : Expr} {op : UnaryOp} {p : Pos} : PlainIx (.UnaryOp op a p) := fun _ _ => rfl
theorem px_call {f : Expr} {as : List Expr} {ks : List Keyword} {p : Pos} : PlainIx (.Call f as ks p) := fun _ _ => rfl
theorem px_sub {a b : Expr} {p : Pos} : PlainIx (.Subscript a b p) := fun _ _ => rfl
theorem px_attr {a : Expr} {x : Str} {p : Pos} : PlainIx (.Attribute a x p) := fun _ _ => rfl
theorem px_tup {as : List Expr} {k : Nat} {p : Pos} : PlainIx (.Tuple as k p) := fun _ _ => rfl
section
variable {X : Cx} {w : Wi} {Γ : Ga} {M : Mm} {Q : D → Mm → Prop} {e o : Expr}
theorem de_append' {apos cpos : Pos} (hs : starEach [e] X.env = [(false, eval e X.env)]) (hbase : attributeBase o "append" X.env (eval o X.env) = eval o X.env) (hline : (apos.endLine == cpos.line) = true) (h : DE X w o Γ M fun x M1 => ∃ p ds, x = .ptr p ∧ M1 p = some (.l ds) ∧ DE X w e Γ M1 fun d M2 => ∃ ds, M2 p = some (.l ds) ∧ ds.length < sizeLine ∧ Q .non (M2.put p (.l (ds ++ [d])))) : DE X w (.Call (.Attribute o "append" apos) [e] [] cpos) Γ M Q := de_append hs h hbase hline
theorem de_join' {apos cpos : Pos} (hs : starEach [e] X.env = [(false, eval e X.env)]) (hbase : attributeBase o "join" X.env (eval o X.env) = eval o X.env) (hline : (apos.endLine == cpos.line) = true) (h : DE X w o Γ M fun x M1 => ∃ s, x = .str s ∧ DE X w e Γ M1 fun d M2 => ∃ ys : List Str, d.seqM M2 = some (ys.map .str) ∧ (ys.map (·.length)).sum + ys.length * s.length ≤ 16777216 ∧ Q (.str (Txt.join s ys)) M2) : DE X w (.Call (.Attribute o "join" apos) [e] [] cpos) Γ M Q := de_join hs h hbase hline
end
/-- o[i] = d -/
def pSet : D → D → D → Mm → (Mm → Prop) → Prop
  | .ptr p, .int k, d, M, Q => ∃ ds j, M p = some (.l ds) ∧ ixN ds.length k = some j ∧ Q (M.put p (.l (ds.set j d)))
  | _, _, _, _, _ => False
section
variable {X : Cx} {w : Wi} {Γ : Ga} {M : Mm} {e o a : Expr} {P : Po} {rest : List Stmt} {pos spos : Pos}
theorem ds_asgSub (hs : swapsWithSole [.Subscript o a pos] e spos.line X.env = pure false) (hw : swappedStores [.Subscript o a pos] e X.env = pure none) (h1 : (assignEach [.Subscript o a pos] X.env).map (·.2) = [assign (.Subscript o a pos) X.env])
    (ha : ∀ v, assign (.Subscript o a pos) X.env v = (do
      let ov ← holding [v] (eval o X.env)
      let iv ← holding [v, ov] (eval a X.env)
      standAt pos
      holding [v, ov, iv] (setItem ov iv v)
      release [v, ov, iv] []))
    (h : DE X w e Γ M fun d M1 => DE X w o Γ M1 fun y M2 => DE X w a Γ M2 fun z M3 => pSet y z d M3 fun M4 => DS X w rest Γ M4 P) : DS X w (.Assign [.Subscript o a pos] e spos :: rest) Γ M P :=
  ds_asg hs hw h1 (de_imp h fun d M1 q => dg_sub ha (de_imp q fun y M2 q => de_imp q fun z M3 q => by
    cases y <;> first | exact q.elim | skip
    cases z <;> first | exact q.elim | skip
    obtain ⟨ds, j, h1, h2, q⟩ := q
    exact ⟨_, j, _, ds, rfl, rfl, h1, h2, q⟩))
end
theorem kit_NoneType_list : kitB "NoneType" "list" = some false := by decide +kernel
theorem kit_NoneType_tuple : kitB "NoneType" "tuple" = some false := by decide +kernel
theorem kit_NoneType_bool : kitB "NoneType" "bool" = some false := by decide +kernel
theorem kit_NoneType_int : kitB "NoneType" "int" = some false := by decide +kernel
theorem kit_NoneType_str : kitB "NoneType" "str" = some false := by decide +kernel
theorem kit_NoneType_dict : kitB "NoneType" "dict" = some false := by decide +kernel
theorem kit_bool_list : kitB "bool" "list" = some false := by decide +kernel
theorem kit_bool_tuple : kitB "bool" "tuple" = some false := by decide +kernel
theorem kit_bool_bool : kitB "bool" "bool" = some true := by decide +kernel
theorem kit_bool_int : kitB "bool" "int" = some true := by decide +kernel
theorem kit_bool_str : kitB "bool" "str" = some false := by decide +kernel
theorem kit_bool_dict : kitB "bool" "dict" = some false := by decide +kernel
theorem kit_int_list : kitB "int" "list" = some false := by decide +kernel
theorem kit_int_tuple : kitB "int" "tuple" = some false := by decide +kernel
theorem kit_int_bool : kitB "int" "bool" = some false := by decide +kernel
theorem kit_int_int : kitB "int" "int" = some true := by decide +kernel
theorem kit_int_str : kitB "int" "str" = some false := by decide +kernel
theorem kit_int_dict : kitB "int" "dict" = some false := by decide +kernel
theorem kit_str_list : kitB "str" "list" = some false := by decide +kernel
theorem kit_str_tuple : kitB "str" "tuple" = some false := by decide +kernel
theorem kit_str_bool : kitB "str" "bool" = some false := by decide +kernel
theorem kit_str_int : kitB "str" "int" = some false := by decide +kernel
theorem kit_str_str : kitB "str" "str" = some true := by decide +kernel
theorem kit_str_dict : kitB "str" "dict" = some false := by decide +kernel
theorem kit_tuple_list : kitB "tuple" "list" = some false := by decide +kernel
theorem kit_tuple_tuple : kitB "tuple" "tuple" = some true := by decide +kernel
theorem kit_tuple_bool : kitB "tuple" "bool" = some false := by decide +kernel
theorem kit_tuple_int : kitB "tuple" "int" = some false := by decide +kernel
theorem kit_tuple_str : kitB "tuple" "str" = some false := by decide +kernel
theorem kit_tuple_dict : kitB "tuple" "dict" = some false := by decide +kernel
theorem kit_list_list : kitB "list" "list" = some true := by decide +kernel
theorem kit_list_tuple : kitB "list" "tuple" = some false := by decide +kernel
theorem kit_list_bool : kitB "list" "bool" = some false := by decide +kernel
theorem kit_list_int : kitB "list" "int" = some false := by decide +kernel
theorem kit_list_str : kitB "list" "str" = some false := by decide +kernel
theorem kit_list_dict : kitB "list" "dict" = some false := by decide +kernel
theorem kit_dict_list : kitB "dict" "list" = some false := by decide +kernel
theorem kit_dict_tuple : kitB "dict" "tuple" = some false := by decide +kernel
theorem kit_dict_bool : kitB "dict" "bool" = some false := by decide +kernel
theorem kit_dict_int : kitB "dict" "int" = some false := by decide +kernel
theorem kit_dict_str : kitB "dict" "str" = some false := by decide +kernel
theorem kit_dict_dict : kitB "dict" "dict" = some true := by decide +kernel
/-! ### leaves -/
section
variable {M : Mm} {Q : D → Mm → Prop} {QT : Bool → Mm → Prop} {i j : Int} {s t : Str} {x y d : D} {ds es : List D} {p : Addr}
theorem lf_addI (h : Q (.int (i + j)) M) : pAdd (.int i) (.int j) M Q := h
theorem lf_addL (l : ds.length + es.length ≤ sizeLine) (h : Q (.lst (ds ++ es)) M) : pAdd (.lst ds) (.lst es) M Q := ⟨l, h⟩
theorem lf_T2 {g : Int → Int → D} (h : Q (g i j) M) : pI2 T2 g (.int i) (.int j) M Q := ⟨trivial, h⟩
theorem lf_C2 {C : Int → Int → Prop} {g : Int → Int → D} (c : C i j) (h : Q (g i j) M) : pI2 C g (.int i) (.int j) M Q := ⟨c, h⟩
theorem lf_mod (c : 0 < j) (h : Q (.int (i % j)) M) : pI2 (fun _ j => 0 < j) (fun i j => .int (i % j)) (.int i) (.int j) M Q := ⟨c, h⟩
theorem lf_fdiv (c : 0 < j) (c2 : j < 1073741824) (h : Q (.int (i / j)) M) : pI2 CDiv (fun i j => .int (i / j)) (.int i) (.int j) M Q := ⟨⟨c, c2⟩, h⟩
theorem lf_pow (c : 0 ≤ j) (c2 : j ≤ 1000000) (c3 : i.natAbs < 18446744073709551616) (h : Q (.int (i ^ j.toNat)) M) : pI2 CPow (fun i j => .int (i ^ j.toNat)) (.int i) (.int j) M Q := ⟨⟨c, c2, c3⟩, h⟩
def mB (j : Int) : Prop := -18446744073709551616 < j ∧ j < 18446744073709551616
instance : Decidable (mB j) := by unfold mB; infer_instance
theorem lf_mulI (c : mB i ∨ mB j) (h : Q (.int (i * j)) M) : pMul (.int i) (.int j) M Q := ⟨c, h⟩
theorem lf_bl {c : Bool} {R : Bool → Prop} (h : R c) : ∃ c', D.bl c = .bl c' ∧ R c' := ⟨c, rfl, h⟩
theorem lf_bl2 {c : Bool} {A B : Bool → Prop} (h : (c = true → A c) ∧ (c = false → B c)) : ∃ c', D.bl c = .bl c' ∧ (c' = true → A c') ∧ (c' = false → B c') := ⟨c, rfl, h⟩
theorem eq_ii : D.eq (.int i) (.int j) = decide (i = j) := by
  show PyData.eqv (.int i) (.int j) = _
  rw [PyData.eqv]; rfl
theorem eq_ss : D.eq (.str s) (.str t) = decide (s = t) := by
  show PyData.eqv (.str s) (.str t) = _
  rw [PyData.eqv]; rfl
theorem eq_bb {a b : Bool} : D.eq (.bl a) (.bl b) = (a == b) := by
  show PyData.eqv (.bool a) (.bool b) = _
  rw [PyData.eqv]
theorem eq_ll : D.eq (.lst ds) (.lst es) = PyData.eqvAll (D.pys ds) (D.pys es) := by
  show PyData.eqv (.list _) (.list _) = _
  rw [PyData.eqv]
theorem eq_tt : D.eq (.tup ds) (.tup es) = PyData.eqvAll (D.pys ds) (D.pys es) := by
  show PyData.eqv (.tuple _) (.tuple _) = _
  rw [PyData.eqv]
theorem eqs_nil : PyData.eqvAll (D.pys []) (D.pys []) = true := rfl
theorem eqs_cons : PyData.eqvAll (D.pys (x :: ds)) (D.pys (y :: es)) = (D.eq x y && PyData.eqvAll (D.pys ds) (D.pys es)) := by
  show PyData.eqvAll (x.py :: _) (y.py :: _) = _
  rw [PyData.eqvAll]; rfl
theorem eq_refl {n : Nat} (h : D.ok n d = true) : D.eq d d = true := SeqAt.eqv_refl _ (D.lay h).1
theorem lf_eqS (h1 : D.ok 60 (.str s) = true) (h2 : D.ok 60 (.str t) = true) (h : Q (.bl (decide (s = t))) M) : pEq (.str s) (.str t) M Q := ⟨h1, h2, by rw [eq_ss]; exact h⟩
theorem lf_neS (h1 : D.ok 60 (.str s) = true) (h2 : D.ok 60 (.str t) = true) (h : Q (.bl (!decide (s = t))) M) : pNe (.str s) (.str t) M Q := ⟨h1, h2, by rw [eq_ss]; exact h⟩
theorem lf_eqI (h : Q (.bl (decide (i = j))) M) : pEq (.int i) (.int j) M Q := ⟨rfl, rfl, by rw [eq_ii]; exact h⟩
theorem lf_eqB {a b : Bool} (h : Q (.bl (a == b)) M) : pEq (.bl a) (.bl b) M Q := ⟨rfl, rfl, by rw [eq_bb]; exact h⟩
theorem lf_neB {a b : Bool} (h : Q (.bl (!(a == b))) M) : pNe (.bl a) (.bl b) M Q := ⟨rfl, rfl, by rw [eq_bb]; exact h⟩
theorem lf_neI (h : Q (.bl (!decide (i = j))) M) : pNe (.int i) (.int j) M Q := ⟨rfl, rfl, by rw [eq_ii]; exact h⟩
theorem lf_ixL (e : atI ds i = some d) (h : Q d M) : pIx (.lst ds) (.int i) M Q := ⟨d, e, h⟩
theorem lf_ixT (e : atI ds i = some d) (h : Q d M) : pIx (.tup ds) (.int i) M Q := ⟨d, e, h⟩
theorem lf_ixP (m : M p = some (.l ds)) (e : atI ds i = some d) (h : Q d M) : pIx (.ptr p) (.int i) M Q := ⟨ds, d, m, e, h⟩
theorem ix0 {a : D} : atI (a :: ds) (0 : Int) = some a := atI_nat (j := 0) rfl
theorem ix1 {a b : D} : atI (a :: b :: ds) (1 : Int) = some b := atI_nat (j := 1) rfl
theorem ix2 {a b c : D} : atI (a :: b :: c :: ds) (2 : Int) = some c := atI_nat (j := 2) rfl
theorem ix3 {a b c d : D} : atI (a :: b :: c :: d :: ds) (3 : Int) = some d := atI_nat (j := 3) rfl
theorem ix4 {a b c d e : D} : atI (a :: b :: c :: d :: e :: ds) (4 : Int) = some e := atI_nat (j := 4) rfl
theorem ix5 {a b c d e f : D} : atI (a :: b :: c :: d :: e :: f :: ds) (5 : Int) = some f := atI_nat (j := 5) rfl
theorem lf_sqL {R : List D → Prop} (h : R ds) : ∃ xs, D.seqM M (.lst ds) = some xs ∧ R xs := ⟨_, rfl, h⟩
theorem lf_sqT {R : List D → Prop} (h : R ds) : ∃ xs, D.seqM M (.tup ds) = some xs ∧ R xs := ⟨_, rfl, h⟩
theorem lf_sqP {R : List D → Prop} (m : M p = some (.l ds)) (h : R ds) : ∃ xs, D.seqM M (.ptr p) = some xs ∧ R xs := ⟨ds, by show (match M p with | some (.l ds) => some ds | _ => none) = some ds; rw [m], h⟩
theorem lf_put {Γ Γ' : Ga} {y : Str} {n : Nat} {R : Ga → Prop} (h : Put Γ y d Γ' n) (k : R Γ') : ∃ Γ'', Put Γ y d Γ'' n ∧ R Γ'' := ⟨Γ', h, k⟩
theorem lf_F {A B : Prop} (h : B) : (false = true → A) ∧ (false = false → B) := ⟨fun e => (by cases e), fun _ => h⟩
theorem lf_T {A B : Prop} (h : A) : (true = true → A) ∧ (true = false → B) := ⟨fun _ => h, fun e => (by cases e)⟩
theorem lf_set0 {R : Mm → Prop} {a : D} (m : M p = some (.l (a :: ds))) (h : R (M.put p (.l (d :: ds)))) : pSet (.ptr p) (.int 0) d M R := ⟨_, 0, m, by unfold ixN; simp, h⟩
theorem lf_set1 {R : Mm → Prop} {a b : D} (m : M p = some (.l (a :: b :: ds))) (h : R (M.put p (.l (a :: d :: ds)))) : pSet (.ptr p) (.int 1) d M R := ⟨_, 1, m, by unfold ixN; simp; omega, h⟩
theorem lf_set2 {R : Mm → Prop} {a b c : D} (m : M p = some (.l (a :: b :: c :: ds))) (h : R (M.put p (.l (a :: b :: d :: ds)))) : pSet (.ptr p) (.int 2) d M R := ⟨_, 2, m, by unfold ixN; simp; omega, h⟩
theorem lf_set3 {R : Mm → Prop} {a b c e : D} (m : M p = some (.l (a :: b :: c :: e :: ds))) (h : R (M.put p (.l (a :: b :: c :: d :: ds)))) : pSet (.ptr p) (.int 3) d M R := ⟨_, 3, m, by unfold ixN; simp; omega, h⟩
theorem lf_isi {T c : String} {b : Bool} (h1 : x.tyName M = some T) (h2 : kitB T c = some b) (h : Q (.bl b) M) : pIsi [x, .ty c] M Q := ⟨T, b, h1, h2, h⟩
theorem lf_isN (h : Q (.bl true) M) : pIs .non .non M Q := ⟨rfl, h⟩
theorem lf_isnotN (h : Q (.bl false) M) : pIsNot .non .non M Q := ⟨rfl, h⟩
theorem lf_blT {A B : Bool → Prop} (h : A true) : ∃ c', D.bl true = .bl c' ∧ (c' = true → A c') ∧ (c' = false → B c') := ⟨true, rfl, fun _ => h, fun e => (by cases e)⟩
theorem lf_blF {A B : Bool → Prop} (h : B false) : ∃ c', D.bl false = .bl c' ∧ (c' = true → A c') ∧ (c' = false → B c') := ⟨false, rfl, fun e => (by cases e), fun _ => h⟩
theorem lf_is_bl {b : Bool} (h : Q (.bl false) M) : pIs (.bl b) .non M Q := ⟨rfl, h⟩
theorem lf_isnot_bl {b : Bool} (h : Q (.bl true) M) : pIsNot (.bl b) .non M Q := ⟨rfl, h⟩
theorem lf_is_int  (h : Q (.bl false) M) : pIs (.int i) .non M Q := ⟨rfl, h⟩
theorem lf_isnot_int  (h : Q (.bl true) M) : pIsNot (.int i) .non M Q := ⟨rfl, h⟩
theorem lf_is_str  (h : Q (.bl false) M) : pIs (.str s) .non M Q := ⟨rfl, h⟩
theorem lf_isnot_str  (h : Q (.bl true) M) : pIsNot (.str s) .non M Q := ⟨rfl, h⟩
theorem lf_is_tup  (h : Q (.bl false) M) : pIs (.tup ds) .non M Q := ⟨rfl, h⟩
theorem lf_isnot_tup  (h : Q (.bl true) M) : pIsNot (.tup ds) .non M Q := ⟨rfl, h⟩
theorem lf_is_lst  (h : Q (.bl false) M) : pIs (.lst ds) .non M Q := ⟨rfl, h⟩
theorem lf_isnot_lst  (h : Q (.bl true) M) : pIsNot (.lst ds) .non M Q := ⟨rfl, h⟩
theorem lf_is_obj {c : Str} {fs : List (Str × D)} (h : Q (.bl false) M) : pIs (.obj c fs) .non M Q := ⟨rfl, h⟩
theorem lf_isnot_obj {c : Str} {fs : List (Str × D)} (h : Q (.bl true) M) : pIsNot (.obj c fs) .non M Q := ⟨rfl, h⟩
theorem lf_is_dK {kvs : List (Key × D)} (h : Q (.bl false) M) : pIs (.dK kvs) .non M Q := ⟨rfl, h⟩
theorem lf_isnot_dK {kvs : List (Key × D)} (h : Q (.bl true) M) : pIsNot (.dK kvs) .non M Q := ⟨rfl, h⟩
theorem lf_is_dT {kvs : List (List Key × D)} (h : Q (.bl false) M) : pIs (.dT kvs) .non M Q := ⟨rfl, h⟩
theorem lf_isnot_dT {kvs : List (List Key × D)} (h : Q (.bl true) M) : pIsNot (.dT kvs) .non M Q := ⟨rfl, h⟩
theorem lf_is_ptr  (h : Q (.bl false) M) : pIs (.ptr p) .non M Q := ⟨rfl, h⟩
theorem lf_isnot_ptr  (h : Q (.bl true) M) : pIsNot (.ptr p) .non M Q := ⟨rfl, h⟩
theorem lf_lenL (h : Q (.int ds.length) M) : pLen (.lst ds) M Q := h
theorem lf_lenT (h : Q (.int ds.length) M) : pLen (.tup ds) M Q := h
theorem lf_lenS (l : s.length ≤ sizeLine) (h : Q (.int s.length) M) : pLen (.str s) M Q := ⟨l, h⟩
theorem lf_lenP (m : M p = some (.l ds)) (h : Q (.int ds.length) M) : pLen (.ptr p) M Q := ⟨ds, m, h⟩
theorem lf_abs (h : Q (.int (if i < 0 then -i else i)) M) : pAbs (.int i) M Q := h
theorem lf_intI (h : Q (.int i) M) : pInt (.int i) M Q := h
theorem lf_intB {b : Bool} (h : Q (.int (if b then 1 else 0)) M) : pInt (.bl b) M Q := h
theorem lf_slL {lo hi : Option Int} (h : Q (.lst (cutD ds lo hi)) M) : pSl (.lst ds) lo hi M Q := h
theorem lf_slS {lo hi : Option Int} (l : s.length ≤ sizeLine) (h : Q (.str (cutS s lo hi)) M) : pSl (.str s) lo hi M Q := ⟨l, h⟩
theorem lf_slR {ns : List Int} {lo hi : Option Int} (h : Q (.lst (cutD (ns.map .int) lo hi)) M) : pSl (.scr ns) lo hi M Q := h
theorem lf_oi {Q : Option Int → Mm → Prop} (h : Q (some i) M) : pO (.int i) M Q := h
theorem lf_po {A : Prop} (h : True → A) : A := h trivial
end
/-! ### 29. _law_same -/
mutual
theorem D.ok_up : ∀ {n : Nat} {d : D}, D.ok n d = true → D.ok (n + 1) d = true
  | _, .non, _ => rfl
  | _, .bl _, _ => rfl
  | _, .int _, _ => rfl
  | _, .str s, h => by simpa [D.ok] using h
  | n + 1, .tup ds, h => by
    have h : D.oks n ds = true := by simpa [D.ok] using h
    show D.oks (n + 1) ds = true
    exact D.oks_up h
  | n + 1, .lst ds, h => by
    have h : D.oks n ds = true := by simpa [D.ok] using h
    show D.oks (n + 1) ds = true
    exact D.oks_up h
  | 0, .tup _, q => by simp [D.ok] at q
  | 0, .lst _, q => by simp [D.ok] at q
  | n, .ty _, q => by simp [D.ok] at q
  | n, .dK _, q => by simp [D.ok] at q
  | n, .dT _, q => by simp [D.ok] at q
  | n, .obj _ _, q => by simp [D.ok] at q
  | n, .ptr _, q => by simp [D.ok] at q
  | n, .scr _, q => by simp [D.ok] at q
theorem D.oks_up : ∀ {n : Nat} {ds : List D}, D.oks n ds = true → D.oks (n + 1) ds = true
  | _, [], _ => rfl
  | n, d :: ds, h => by
    simp only [D.oks, Bool.and_eq_true] at h ⊢
    exact ⟨D.ok_up h.1, D.oks_up h.2⟩
end
theorem D.ok_le {n m : Nat} {d : D} (h : D.ok n d = true) (l : n ≤ m) : D.ok m d = true := by
  induction l with
  | refl => exact h
  | step _ ih => exact D.ok_up ih
theorem D.oks_mem {n : Nat} : ∀ {ds : List D} {d : D}, D.oks n ds = true → d ∈ ds → D.ok n d = true
  | x :: xs, d, h, hd => by
    simp only [D.oks, Bool.and_eq_true] at h
    rcases List.mem_cons.mp hd with q | q
    · rw [q]; exact h.1
    · exact D.oks_mem h.2 q
theorem D.oks_of {n : Nat} : ∀ {ds : List D}, (∀ d ∈ ds, D.ok n d = true) → D.oks n ds = true
  | [], _ => rfl
  | x :: xs, h => by
    simp only [D.oks, Bool.and_eq_true]
    exact ⟨h x List.mem_cons_self, D.oks_of fun d hd => h d (List.mem_cons_of_mem _ hd)⟩
mutual
/-- D.ok, and no list is very long -/
def D.sm : Nat → D → Bool
  | _, .non => true
  | _, .bl _ => true
  | _, .int _ => true
  | _, .str s => PyData.strOk s && decide (s.cps.toList.length ≤ 1000000)
  | n + 1, .tup ds => decide (ds.length ≤ 1000000) && D.sms n ds
  | n + 1, .lst ds => decide (ds.length ≤ 1000000) && D.sms n ds
  | _, _ => false
def D.sms : Nat → List D → Bool
  | _, [] => true
  | n, d :: ds => D.sm n d && D.sms n ds
end
mutual
theorem D.sm_ok : ∀ {n : Nat} {d : D}, D.sm n d = true → D.ok n d = true
  | _, .non, _ => rfl
  | _, .bl _, _ => rfl
  | _, .int _, _ => rfl
  | _, .str s, h => by
    simp only [D.sm, Bool.and_eq_true] at h
    simpa [D.ok, PyData.canLay0] using h.1
  | n + 1, .tup ds, h => by
    simp only [D.sm, Bool.and_eq_true] at h
    show D.oks n ds = true
    exact D.sms_ok h.2
  | n + 1, .lst ds, h => by
    simp only [D.sm, Bool.and_eq_true] at h
    show D.oks n ds = true
    exact D.sms_ok h.2
  | 0, .tup _, q => by simp [D.sm] at q
  | 0, .lst _, q => by simp [D.sm] at q
  | n, .ty _, q => by simp [D.sm] at q
  | n, .dK _, q => by simp [D.sm] at q
  | n, .dT _, q => by simp [D.sm] at q
  | n, .obj _ _, q => by simp [D.sm] at q
  | n, .ptr _, q => by simp [D.sm] at q
  | n, .scr _, q => by simp [D.sm] at q
theorem D.sms_ok : ∀ {n : Nat} {ds : List D}, D.sms n ds = true → D.oks n ds = true
  | _, [], _ => rfl
  | n, d :: ds, h => by
    simp only [D.sms, D.oks, Bool.and_eq_true] at h ⊢
    exact ⟨D.sm_ok h.1, D.sms_ok h.2⟩
end
theorem D.sms_mem {n : Nat} : ∀ {ds : List D} {d : D}, D.sms n ds = true → d ∈ ds → D.sm n d = true
  | x :: xs, d, h, hd => by
    simp only [D.sms, Bool.and_eq_true] at h
    rcases List.mem_cons.mp hd with q | q
    · rw [q]; exact h.1
    · exact D.sms_mem h.2 q
theorem D.sms_of {n : Nat} : ∀ {ds : List D}, (∀ d ∈ ds, D.sm n d = true) → D.sms n ds = true
  | [], _ => rfl
  | x :: xs, h => by
    simp only [D.sms, Bool.and_eq_true]
    exact ⟨h x List.mem_cons_self, D.sms_of fun d hd => h d (List.mem_cons_of_mem _ hd)⟩
theorem zipD_self (ds : List D) : zipD ds ds = ds.map fun d => .tup [d, d] := by
  unfold zipD
  induction ds with
  | nil => rfl
  | cons a l ih => rw [List.zipWith_cons_cons, ih]; rfl
theorem all_rep : ∀ n : Nat, (List.replicate n true).all id = true
  | 0 => rfl
  | n + 1 => by rw [List.replicate_succ, List.all_cons, all_rep n]; rfl
end L3
namespace L3
open PySem PySem.Spec PyProof.Rows L2
/-! ### 30. Names -/
def abc : Str := "abcdefghijklmnopqrstuvwxyz"
theorem abc_l : abc.cps.toList = (List.range 26).map (· + 97) := by decide +kernel
def NameS (s : Str) : Prop := 1 ≤ s.cps.toList.length ∧ s.cps.toList.length ≤ 8 ∧ ∀ c ∈ s.cps.toList, 97 ≤ c ∧ c ≤ 122
theorem mem_abc {c : Nat} : c ∈ abc.cps.toList ↔ 97 ≤ c ∧ c ≤ 122 := by
  rw [abc_l]; simp only [List.mem_map, List.mem_range]
  constructor
  · rintro ⟨a, h, rfl⟩; omega
  · intro h; exact ⟨c - 97, by omega, by omega⟩
def NamesOk (n : Nat) (names : List Str) : Prop := names.length = n ∧ (∀ s ∈ names, NameS s) ∧ names.Nodup
section
variable {X : Cx} {w : Wi} {Γ Γ' : Ga} {M : Mm} {Q : List D → Mm → Prop} {P : Po} {tg iter : Expr} {x : Str} {i : Nat} {p : Addr} {c : Cell} {sts : List Stmt} {σ : St}
theorem lf_exS {s : Str} {R : Str → Prop} (h : R s) : ∃ s', D.str s = .str s' ∧ R s' := ⟨s, rfl, h⟩
theorem lf_exP {R : Addr → Prop} (h : R p) : ∃ p', D.ptr p = .ptr p' ∧ R p' := ⟨p, rfl, h⟩
theorem lf_seqL {ds : List D} {R : List D → Prop} (h : R ds) : ∃ xs, D.seq (.lst ds) = some xs ∧ R xs := ⟨_, rfl, h⟩
theorem lf_seqT {ds : List D} {R : List D → Prop} (h : R ds) : ∃ xs, D.seq (.tup ds) = some xs ∧ R xs := ⟨_, rfl, h⟩
theorem lf_rng1 {n : Int} {R : Int → Prop} (h1 : -4611686018427387904 ≤ n) (h2 : n < 4611686018427387904) (h : R n) : ∃ m : Int, [D.int n] = [.int m] ∧ -(2 ^ 62) ≤ m ∧ m < 2 ^ 62 ∧ R m := ⟨n, rfl, by omega, by omega, h⟩
theorem lf_rng2 {m n : Int} {R : Int → Int → Prop} (h1 : -4611686018427387904 ≤ m) (h2 : m < 4611686018427387904) (h3 : -4611686018427387904 ≤ n) (h4 : n < 4611686018427387904) (h : R m n) : ∃ a b : Int, [D.int m, .int n] = [.int a, .int b] ∧ (-(2 ^ 62) ≤ a ∧ a < 2 ^ 62 ∧ -(2 ^ 62) ≤ b ∧ b < 2 ^ 62) ∧ R a b := ⟨m, n, rfl, ⟨by omega, by omega, by omega, by omega⟩, h⟩
theorem lf_par2 {x y : Str} {i j : Nat} {d1 d2 : D} {Γ1 Γ2 : Ga} {R : Ga → Prop} (p1 : Put Γ x d1 Γ1 i) (p2 : Put Γ1 y d2 Γ2 j) (k : R Γ2) : ∃ e1 e2 Γ1 Γ2, [d1, d2] = [e1, e2] ∧ Put Γ x e1 Γ1 i ∧ Put Γ1 y e2 Γ2 j ∧ R Γ2 := ⟨_, _, _, _, rfl, p1, p2, k⟩
theorem lf_par3 {x y z : Str} {i j l : Nat} {d1 d2 d3 : D} {Γ1 Γ2 Γ3 : Ga} {R : Ga → Prop} (p1 : Put Γ x d1 Γ1 i) (p2 : Put Γ1 y d2 Γ2 j) (p3 : Put Γ2 z d3 Γ3 l) (k : R Γ3) : ∃ e1 e2 e3 Γ1 Γ2 Γ3, [d1, d2, d3] = [e1, e2, e3] ∧ Put Γ x e1 Γ1 i ∧ Put Γ1 y e2 Γ2 j ∧ Put Γ2 z e3 Γ3 l ∧ R Γ3 := ⟨_, _, _, _, _, _, rfl, p1, p2, p3, k⟩
theorem hI (h : DI X w tg iter Γ M Q) : DI X w tg iter Γ M Q := h
theorem fp_one {pins : List (Addr × Obj)} {H : Hp} {s : Shared} (I : Inv X pins σ H s) : ∀ b ∈ [s.heap.objs.size], FpOk X pins H b := fun b hb => by
  have hb' : b = s.heap.objs.size := by simpa using hb
  rw [hb']
  exact Inv.fpOk I (Nat.le_refl _) (HOk.fresh I.hok (Nat.le_refl _))
theorem walkL {pins : List (Addr × Obj)} {H : Hp} {s : Shared} {a : Addr} {xs : List V} {R : It → Hp → Prop} (I : Inv X pins σ H s) (hq : SqL X.K H a xs) (q : R (Itl X.K a) H) : wpAny (model X.prog X.w) X.A (pyIter (.ref a)) (PIE X pins σ tg R) X.xe s := by
  obtain ⟨its, rv, p, hz⟩ := Inv.list I hq
  have nw := fp_one I
  exact wpAny_pyIter_list p.isList ⟨_, [s.heap.objs.size], _, _, H, rfl, Inv.kept I (t' := s.toks) (fun _ _ e => Heap.get?_push_of_some _ e), turn_list a _, ⟨_, Heap.get?_push_size _ rfl, rfl, rfl⟩, nw, q⟩
theorem walkT {pins : List (Addr × Obj)} {H : Hp} {s : Shared} {a : Addr} {xs : List V} {R : It → Hp → Prop} (I : Inv X pins σ H s) (hq : SqT X.K H a xs) (q : R (Itt X.K a) H) : wpAny (model X.prog X.w) X.A (pyIter (.ref a)) (PIE X pins σ tg R) X.xe s := by
  obtain ⟨its, rv, p, hz⟩ := Inv.tuple I hq
  have nw := fp_one I
  have p' : s.heap.IsTuple a its.toArray := p
  exact wpAny_pyIter_tuple p' ⟨_, [s.heap.objs.size], _, _, H, rfl, Inv.kept I (t' := s.toks) (fun _ _ e => Heap.get?_push_of_some _ e), turn_tuple a _, ⟨_, Heap.get?_push_size _ rfl, rfl, rfl⟩, nw, q⟩
/-- what a for walks: a list or a tuple of data -/
theorem di_seq (h : DE X w iter Γ M fun d M1 => ∃ ds, d.seq = some ds ∧ Q ds M1) : DI X w tg iter Γ M Q := .mk fun F σ H Hb A => by
  intro pins s I
  refine thn (h.run F σ H Hb A pins s I) fun u s1 ⟨v, H1, I1, r1, Hb1, d, M1, e1, A1, rr, ds, hd, q⟩ => ?_
  cases rr with
  | tup h1 h2 =>
    cases hd; cases r1
    exact walkT I1 (ex_t A1.hs.ex h1) ⟨Hb1, M1, _, e1, A1, itd_tup h1 h2, q⟩
  | lst h1 h2 =>
    cases hd; cases r1
    exact walkL I1 (SqL.of (A1.hs.ex _ _ h1)) ⟨Hb1, M1, _, e1, A1, itd_list h1 h2, q⟩
  | _ => cases hd
/-- a mutable thing that a name holds is data from here on -/
theorem ds_frz (hx : Has Γ x i (.ptr p)) (hm : M p = some c) (hp : Put Γ x c.data Γ' i) (k : DS X w sts Γ' (M.del p) P) : DS X w sts Γ M P := .mk fun F σ H Hb A => by
  obtain ⟨o, e1, r⟩ := (A.hs.ce p c hm).2.rep
  obtain ⟨hs, ex⟩ := A.hs.freeze hm e1
  obtain ⟨v, g1, g2⟩ := A.sl.get _ hx.mem _ rfl
  have ev := rep_ptr g2
  subst ev
  have A2 : At X w F (upd Hb p o) H σ Γ (M.del p) := ⟨A.wok, A.h0.trans ex, A.f0, hs, A.sl.mono ex⟩
  have A3 := A2.put hp (r _ ex upd_same)
  have es : σ.set i (some (.ref p)) = σ := by
    obtain ⟨l, e⟩ := List.getElem?_eq_some_iff.mp g1
    rw [← e, List.set_getElem_self]
  rw [es] at A3
  exact semB_back ex (k.run F σ H _ A3)
end
end L3
namespace L3
open PySem PySem.Spec PyProof.Rows L2
/-! ### texts by their signs -/
abbrev tx (l : List Nat) : Str := ⟨l.toArray⟩
theorem tx_of (s : Str) : s = tx s.cps.toList := by cases s; rfl
theorem tx_len (l : List Nat) : (tx l).length = l.length := by simp [Str.length]
theorem tx_app (a b : List Nat) : tx a ++ tx b = tx (a ++ b) := by show Str.append _ _ = _; simp [Str.append]
theorem tx_l (l : List Nat) : (tx l).cps.toList = l := rfl
theorem glued_e (l : List Str) (a : Array Nat) : l.foldl (fun acc p => acc ++ (Str.cps "") ++ p.cps) a = a ++ (l.map fun s => s.cps.toList).flatten.toArray := by
  induction l generalizing a with
  | nil => simp
  | cons x l ih =>
    rw [List.foldl_cons, ih]
    have : (Str.cps "") = #[] := by decide +kernel
    apply Array.toList_inj.mp
    simp [this]
theorem join_e (l : List Str) : Txt.join "" l = tx (l.map fun s => s.cps.toList).flatten := by
  unfold Txt.join Builtin.Str.glued
  rw [glued_e]
  cases l with
  | nil => rfl
  | cons x l => simp
theorem join_signs (cs : List Nat) : Txt.join "" (cs.map fun c => (⟨#[c]⟩ : Str)) = tx cs := by
  rw [join_e]
  congr 1
  induction cs with
  | nil => rfl
  | cons c cs ih => simp at ih ⊢; exact ih
theorem rngD_length (a : Int) (n : Nat) : (rngD a n).length = n := by unfold rngD; simp
section
variable {M : Mm} {Q : D → Mm → Prop} {a b : List Nat} {k : Int} {s t : Str}
theorem lf_lenX (l : a.length ≤ 1000000) (h : Q (.int a.length) M) : pLen (.str (tx a)) M Q := ⟨by rw [tx_len, sizeLine_eq]; omega, by rw [tx_len]; exact h⟩
theorem cut_to (a : List Nat) (k : Int) (h : 0 ≤ k) : cutS (tx a) none (some k) = tx (a.take k.toNat) := by
  unfold cutS
  rw [HT.sIx_none, show k = ((k.toNat : Nat) : Int) by omega, HT.sIx_nat, tx_len, List.drop_zero, Nat.sub_zero, Int.toNat_natCast, tx_l]
  congr 2
  by_cases q : k.toNat ≤ a.length
  · rw [Nat.min_eq_left q]
  · rw [Nat.min_eq_right (by omega), List.take_of_length_le (Nat.le_refl _), List.take_of_length_le (by omega)]
theorem cut_from (a : List Nat) (k : Int) (h : 0 ≤ k) : cutS (tx a) (some k) none = tx (a.drop k.toNat) := by
  unfold cutS
  rw [HT.sIx_none, show k = ((k.toNat : Nat) : Int) by omega, HT.sIx_nat, tx_len, Int.toNat_natCast, tx_l]
  congr 1
  by_cases q : k.toNat ≤ a.length
  · rw [Nat.min_eq_left q, List.take_of_length_le (by rw [List.length_drop]; omega)]
  · rw [Nat.min_eq_right (by omega), List.drop_of_length_le (Nat.le_refl _), List.drop_of_length_le (by omega), List.take_nil]
theorem lf_slXto (l : a.length ≤ 1000000) (z : 0 ≤ k) (h : Q (.str (tx (a.take k.toNat))) M) : pSl (.str (tx a)) none (some k) M Q := ⟨by rw [tx_len, sizeLine_eq]; omega, by rw [cut_to a k z]; exact h⟩
theorem lf_slXfr (l : a.length ≤ 1000000) (z : 0 ≤ k) (h : Q (.str (tx (a.drop k.toNat))) M) : pSl (.str (tx a)) (some k) none M Q := ⟨by rw [tx_len, sizeLine_eq]; omega, by rw [cut_from a k z]; exact h⟩
theorem lf_addX (l : a.length + b.length ≤ 1000000) (h : Q (.str (tx (a ++ b))) M) : pAdd (.str (tx a)) (.str (tx b)) M Q := ⟨by rw [tx_len, tx_len, sizeLine_eq]; omega, by rw [tx_app]; exact h⟩
theorem lf_addS (l : s.length + t.length ≤ sizeLine) (h : Q (.str (s ++ t)) M) : pAdd (.str s) (.str t) M Q := ⟨l, h⟩
end
section
variable {X : Cx} {w : Wi} {Γ Γ' : Ga} {M : Mm} {P : Po} {x : Str} {i k : Nat} {n : Nm} {rest : List Stmt} {o : Option D} {pos pos' lp : Pos}
theorem lf_lsz {ds : List D} {A : Prop} (l : ds.length ≤ 1000000) (h : A) : ds.length ≤ sizeLine ∧ A := ⟨by rw [sizeLine_eq]; omega, h⟩
/-- x = [], a list that will grow -/
theorem ds_setE (S : Sc X k n) (hx : x ∈ n.locs) (hm : (x, i, o) ∈ Γ) (hs : swapsWith (.List [] lp) (some (.Name x pos')) pos.line X.env = pure false)
    (h : ∀ p, M p = none → ∃ Γ', Put Γ x (.ptr p) Γ' i ∧ DS X w rest Γ' (M.put p (.l [])) P) : DS X w (.Assign [.Name x pos'] (.List [] lp) pos :: rest) Γ M P :=
  ds_set S hx hm hs (de_lstM (da_nil ⟨by rw [sizeLine_eq]; simp, fun p hp => h p hp⟩))
end
section
variable {X : Cx} {w : Wi} {Γ Γ' : Ga} {M : Mm} {P : Po} {x : Str} {i k : Nat} {n : Nm} {tg : Expr} {d : D} {QG : Ga → Mm → Prop} {Q : D → Mm → Prop}
theorem hG (h : DG X w tg d Γ M QG) : DG X w tg d Γ M QG := h
theorem lf_ixAbc {i : Int} (h0 : 0 ≤ i) (h1 : i < 26) (h : Q (.str (tx [97 + i.toNat])) M) : pIx (.str abc) (.int i) M Q := by
  refine ⟨by rw [sizeLine_eq]; decide +kernel, 97 + i.toNat, ?_, h⟩
  obtain ⟨j, rfl⟩ : ∃ j : Nat, i = j := ⟨i.toNat, by omega⟩
  rw [abc_l]
  refine atI_nat ?_
  rw [List.getElem?_map, List.getElem?_range (by omega)]; simp [Nat.add_comm]
theorem lf_mulB {b : Bool} {z : List Nat} (h : Q (.str (tx (if b then z else []))) M) : pMul (.str (tx z)) (.int (if b then 1 else 0)) M Q := ⟨b, rfl, by cases b <;> exact h⟩
end
theorem rngD_at {a : Int} {n j : Nat} {d : D} (h : (rngD a n)[j]? = some d) : j < n ∧ d = .int (a + j) := by
  unfold rngD at h
  rw [List.getElem?_map] at h
  by_cases q : j < n
  · rw [List.getElem?_range q] at h; cases h; exact ⟨q, rfl⟩
  · rw [List.getElem?_eq_none (by simpa using q)] at h; cases h
/-- the k-th drawn name -/
def nameAt (cs : List Nat) (sp ba st : Int) (mo : List Nat) (k : Nat) : List Nat :=
  cs.take sp.toNat ++ [97 + ((ba + st * k) % 26).toNat] ++ cs.drop sp.toNat ++ (if decide ((k : Int) % 2 = 1) = true then mo else [])
theorem rngD_at0 {n j : Nat} {d : D} (h : (rngD 0 n)[j]? = some d) : j < n ∧ d = .int j := by
  have q := rngD_at h
  rw [Int.zero_add] at q; exact q
section
variable {M : Mm} {p : Addr} {ds : List D}
theorem lf_app1 {R : Addr → Prop} (m : M p = some (.l ds)) (h : R p) : ∃ q ds, D.ptr p = .ptr q ∧ M q = some (.l ds) ∧ R q := ⟨p, ds, rfl, m, h⟩
theorem lf_app2 {R : List D → Prop} (m : M p = some (.l ds)) (l : ds.length < sizeLine) (h : R ds) : ∃ es, M p = some (.l es) ∧ es.length < sizeLine ∧ R es := ⟨ds, m, l, h⟩
end
section
variable {M : Mm} {p : Addr} {c : Cell}
theorem lf_frz {R : Addr → Cell → Prop} (m : M p = some c) (h : R p c) : ∃ q cl, D.ptr p = .ptr q ∧ M q = some cl ∧ R q cl := ⟨p, c, rfl, m, h⟩
end
theorem keep_del {p q : Addr} {M M1 M2 : Mm} {c : Cell} (k : Keep p M M1) (h : M1 q = none) (e : M2 = M1.put q c) : Keep p M (M2.del q) := fun a ha => by
  subst e
  unfold Mm.del
  by_cases z : a = q
  · rw [if_pos z, z]
    by_cases y : q = p
    · rw [← y] at ha; exact absurd z ha
    · rw [← k q y, h]
  · rw [if_neg z, Mm.put_ne z]; exact k a ha
theorem BagAt.del {p q : Addr} {M : Mm} {c : Cell} (h : BagAt M p) (n : M q = none) : BagAt ((M.put q c).del q) p := by
  have z := h.ne n
  obtain ⟨b, hb⟩ := h
  exact ⟨b, by unfold Mm.del; rw [if_neg z, Mm.put_ne z]; exact hb⟩
theorem names_ok {cs mo : List Nat} {sp ba st : Int} {n : Nat} (h : cs.length ≤ 4) (hc : ∀ c ∈ cs, 97 ≤ c ∧ c ≤ 122) (hm : mo.length ≤ 1) (hmc : ∀ c ∈ mo, 97 ≤ c ∧ c ≤ 122) (hst : st ∈ ([1, 3, 5, 7] : List Int)) (hn : n ≤ 26) :
    NamesOk n ((List.range n).map fun k => tx (nameAt cs sp ba st mo k)) := by
  refine ⟨by simp, fun s hs => ?_, ?_⟩
  · obtain ⟨k, hk, rfl⟩ := List.mem_map.mp hs
    have e : (cs.take sp.toNat).length + (cs.drop sp.toNat).length = cs.length := by rw [List.length_take, List.length_drop]; omega
    refine ⟨?_, ?_, fun c hcm => ?_⟩
    · show 1 ≤ (nameAt cs sp ba st mo k).length
      unfold nameAt; simp only [List.length_append, List.length_cons, List.length_nil]; omega
    · show (nameAt cs sp ba st mo k).length ≤ 8
      unfold nameAt; simp only [List.length_append, List.length_cons, List.length_nil]
      split <;> (try simp only [List.length_nil]) <;> omega
    · have hcm : c ∈ nameAt cs sp ba st mo k := hcm
      unfold nameAt at hcm
      rcases List.mem_append.mp hcm with z | z
      · rcases List.mem_append.mp z with z | z
        · rcases List.mem_append.mp z with z | z
          · exact hc c (List.mem_of_mem_take z)
          · rw [List.mem_singleton.mp z]; omega
        · exact hc c (List.mem_of_mem_drop z)
      · split at z
        · exact hmc c z
        · cases z
  · rw [List.Nodup, List.pairwise_map]
    refine List.Pairwise.imp_of_mem ?_ (List.nodup_range (n := n))
    intro a b ha hb hab e
    have e : nameAt cs sp ba st mo a = nameAt cs sp ba st mo b := congrArg (fun s : Str => s.cps.toList) e
    unfold nameAt at e
    simp only [List.append_assoc] at e
    have e := List.append_cancel_left e
    have e := (List.cons.inj e).1
    rw [List.mem_range] at ha hb
    simp only [List.mem_cons, List.not_mem_nil, or_false] at hst
    rcases hst with rfl | rfl | rfl | rfl <;> omega
section
variable {M : Mm} {Q : D → Mm → Prop} {x y : D} {ds : List D} {p : Addr}
theorem lf_inT (h1 : D.ok 60 x = true) (h2 : D.oks 59 ds = true) (h : Q (.bl (D.mem x ds)) M) : pIn false x (.tup ds) M Q := by cases x <;> exact ⟨h1, h2, h⟩
theorem lf_inL (h1 : D.ok 60 x = true) (h2 : D.oks 59 ds = true) (h : Q (.bl (D.mem x ds)) M) : pIn false x (.lst ds) M Q := by cases x <;> exact ⟨h1, h2, h⟩
theorem lf_inP (m : M p = some (.l ds)) (h1 : D.ok 60 x = true) (h2 : D.oks 59 ds = true) (h : Q (.bl (D.mem x ds)) M) : pIn false x (.ptr p) M Q := by cases x <;> exact ⟨_, m, h1, h2, h⟩
theorem lf_ninT (h1 : D.ok 60 x = true) (h2 : D.oks 59 ds = true) (h : Q (.bl (!D.mem x ds)) M) : pIn true x (.tup ds) M Q := by cases x <;> exact ⟨h1, h2, h⟩
theorem lf_ninL (h1 : D.ok 60 x = true) (h2 : D.oks 59 ds = true) (h : Q (.bl (!D.mem x ds)) M) : pIn true x (.lst ds) M Q := by cases x <;> exact ⟨h1, h2, h⟩
theorem lf_ninP (m : M p = some (.l ds)) (h1 : D.ok 60 x = true) (h2 : D.oks 59 ds = true) (h : Q (.bl (!D.mem x ds)) M) : pIn true x (.ptr p) M Q := by cases x <;> exact ⟨_, m, h1, h2, h⟩
theorem lf_eq (h1 : D.ok 60 x = true) (h2 : D.ok 60 y = true) (h : Q (.bl (D.eq x y)) M) : pEq x y M Q := ⟨h1, h2, h⟩
theorem lf_ne (h1 : D.ok 60 x = true) (h2 : D.ok 60 y = true) (h : Q (.bl (!D.eq x y)) M) : pNe x y M Q := ⟨h1, h2, h⟩
theorem mem_nil : D.mem x [] = false := rfl
theorem mem_cons : D.mem x (y :: ds) = (D.eq y x || D.mem x ds) := rfl
theorem lf_slT {lo hi : Option Int} (h : Q (.tup (cutD ds lo hi)) M) : pSl (.tup ds) lo hi M Q := h
theorem cutI_from {n : Int} (h : 0 ≤ n) : cutD ds (some n) none = ds.drop n.toNat := by
  obtain ⟨k, rfl⟩ : ∃ k : Nat, n = k := ⟨n.toNat, by omega⟩
  exact cutD_from
theorem cutI_to {n : Int} (h : 0 ≤ n) : cutD ds none (some n) = ds.take n.toNat := by
  obtain ⟨k, rfl⟩ : ∃ k : Nat, n = k := ⟨n.toNat, by omega⟩
  exact cutD_to
theorem cutI_mid {m n : Int} (h : 0 ≤ m) (h2 : m ≤ n) : cutD ds (some m) (some n) = (ds.take n.toNat).drop m.toNat := by
  obtain ⟨k, rfl⟩ : ∃ k : Nat, n = k := ⟨n.toNat, by omega⟩
  obtain ⟨j, rfl⟩ : ∃ k : Nat, m = k := ⟨m.toNat, by omega⟩
  unfold cutD
  rw [HT.sIx_nat, HT.sIx_nat, Int.toNat_natCast, Int.toNat_natCast, List.drop_take]
  by_cases h : k ≤ ds.length
  · rw [Nat.min_eq_left h, Nat.min_eq_left (by omega)]
  · rw [Nat.min_eq_right (by omega)]
    by_cases h3 : j ≤ ds.length
    · rw [Nat.min_eq_left h3, List.take_of_length_le (by rw [List.length_drop]; omega), List.take_of_length_le (by rw [List.length_drop]; omega)]
    · rw [Nat.min_eq_right (by omega), List.drop_of_length_le (Nat.le_refl _), List.drop_of_length_le (by omega)]; simp
theorem sIxI {n d : Nat} {k : Int} (h : 0 ≤ k) : HT.sIx n d (some k) = min k.toNat n := by
  obtain ⟨j, rfl⟩ : ∃ j : Nat, k = j := ⟨k.toNat, by omega⟩
  rw [HT.sIx_nat]; rfl
theorem lf_slTto {n : Int} (z : 0 ≤ n) (h : Q (.tup (ds.take n.toNat)) M) : pSl (.tup ds) none (some n) M Q := lf_slT (by rw [cutI_to z]; exact h)
theorem lf_slTfr {n : Int} (z : 0 ≤ n) (h : Q (.tup (ds.drop n.toNat)) M) : pSl (.tup ds) (some n) none M Q := lf_slT (by rw [cutI_from z]; exact h)
theorem lf_slTmid {m n : Int} (z : 0 ≤ m) (z2 : m ≤ n) (h : Q (.tup ((ds.take n.toNat).drop m.toNat)) M) : pSl (.tup ds) (some m) (some n) M Q := lf_slT (by rw [cutI_mid z z2]; exact h)
theorem cutI_neg {n : Int} (h : n < 0) : cutD ds none (some n) = ds.take (ds.length - (-n).toNat) := by
  unfold cutD
  have e : HT.sIx ds.length ds.length (some n) = ds.length - (-n).toNat := by
    show (if n < 0 then (n + (ds.length : Int)).toNat else min n.toNat ds.length) = _
    rw [if_pos h]; omega
  rw [e, HT.sIx_none, List.drop_zero, Nat.sub_zero]
theorem lf_slTneg {n : Int} (z : n < 0) (h : Q (.tup (ds.take (ds.length - (-n).toNat))) M) : pSl (.tup ds) none (some n) M Q := lf_slT (by rw [cutI_neg z]; exact h)
theorem lf_slLneg {n : Int} (z : n < 0) (h : Q (.lst (ds.take (ds.length - (-n).toNat))) M) : pSl (.lst ds) none (some n) M Q := lf_slL (by rw [cutI_neg z]; exact h)
theorem lf_addT {es : List D} (l : ds.length + es.length ≤ sizeLine) (h : Q (.tup (ds ++ es)) M) : pAdd (.tup ds) (.tup es) M Q := ⟨l, h⟩
theorem lf_mulL {n : Int} (l : ds.length * n.toNat ≤ 1000000) (l1 : n < 1000000) (l2 : -1000000 < n) (h : Q (.lst (List.replicate n.toNat ds).flatten) M) : pMul (.lst ds) (.int n) M Q := ⟨by omega, by omega, by rw [sizeLine_eq]; omega, h⟩
theorem lf_slLto {n : Int} (z : 0 ≤ n) (h : Q (.lst (ds.take n.toNat)) M) : pSl (.lst ds) none (some n) M Q := lf_slL (by rw [cutI_to z]; exact h)
theorem lf_slLfr {n : Int} (z : 0 ≤ n) (h : Q (.lst (ds.drop n.toNat)) M) : pSl (.lst ds) (some n) none M Q := lf_slL (by rw [cutI_from z]; exact h)
theorem lf_slLmid {m n : Int} (z : 0 ≤ m) (z2 : m ≤ n) (h : Q (.lst ((ds.take n.toNat).drop m.toNat)) M) : pSl (.lst ds) (some m) (some n) M Q := lf_slL (by rw [cutI_mid z z2]; exact h)
end
theorem lf_kwl {a b : Nat} {A : Prop} (e : a = b) (h : A) : a = b ∧ A := ⟨e, h⟩
theorem NameS.small {s : Str} (h : NameS s) : s.cps.toList.length ≤ 8 := h.2.1
theorem nameS_ok {s : Str} (h : NameS s) : PyData.strOk s = true := by
  unfold PyData.strOk
  rw [Array.all_eq_true']
  intro c hc
  have := h.2.2 c (by simpa using hc)
  exact decide_eq_true (by omega)
section
variable {n : Nat} {ds : List D} {d : D} {A B : Prop} {s : Str}
theorem lf_nT (h : B) : ((!true) = true → A) ∧ ((!true) = false → B) := ⟨fun e => (by cases e), fun _ => h⟩
theorem lf_nF (h : A) : ((!false) = true → A) ∧ ((!false) = false → B) := ⟨fun _ => h, fun e => (by cases e)⟩
theorem sm_lst (l : ds.length ≤ 1000000) (h : D.sms n ds = true) : D.sm (n + 1) (.lst ds) = true := by
  show (decide (ds.length ≤ 1000000) && D.sms n ds) = true
  rw [Bool.and_eq_true]; exact ⟨decide_eq_true l, h⟩
theorem sm_tup (l : ds.length ≤ 1000000) (h : D.sms n ds = true) : D.sm (n + 1) (.tup ds) = true := by
  show (decide (ds.length ≤ 1000000) && D.sms n ds) = true
  rw [Bool.and_eq_true]; exact ⟨decide_eq_true l, h⟩
theorem sm_int {i : Int} : D.sm n (.int i) = true := by cases n <;> rfl
theorem sm_bl {i : Bool} : D.sm n (.bl i) = true := by cases n <;> rfl
theorem sm_non : D.sm n .non = true := by cases n <;> rfl
theorem sm_str (h : PyData.strOk s = true) (l : s.cps.toList.length ≤ 1000000) : D.sm n (.str s) = true := by cases n <;> (simp only [D.sm, Bool.and_eq_true]; exact ⟨h, decide_eq_true l⟩)
theorem sms_nil : D.sms n [] = true := rfl
theorem sms_cons (h : D.sm n d = true) (t : D.sms n ds = true) : D.sms n (d :: ds) = true := by
  show (D.sm n d && D.sms n ds) = true
  rw [Bool.and_eq_true]; exact ⟨h, t⟩
theorem sms_of {α : Type} {f : α → D} {l : List α} (h : ∀ x ∈ l, D.sm n (f x) = true) : D.sms n (l.map f) = true := D.sms_of fun d hd => by
  obtain ⟨x, hx, rfl⟩ := List.mem_map.mp hd
  exact h x hx
end
/-- the law's end: from its promise over data to the walk that the head asks -/
def spLaw : SpD := fun ds M Q _ => ∃ ns, ds = [.scr ns] ∧ ns.length ≤ 63 ∧ ∀ M', Q (.bl true) M'
theorem law_walk {l : PySem.W.OpenLaw} {q : Program} {loose : List Str} {XP : (Str → Option Value) → Heap → Prop} {YP : World → Heap → Prop} {d : DefRec} {K : Params → PySem.W.Frag} {x : Str} {st : Stmt} {k : Nat} (hn : l.most = some 63) (hdf : d.params.defaults = [])
    (hY : ∀ (w : World) (h : Heap), YP w h → (K w.params).In h) (hd : d.name = "law") (hr : Room k callerA)
    (hbd : ∀ (kV doc pm : Value) (an : Option Addr) (cdv ct : Value) (u : Value), bindArgs (PySem.W.fnOf "law" "law" (defArgs st) (defBody st) (defScope st) .none kV doc pm an cdv ct) ⟨[u], []⟩ = pure [(x, u)])
    (F : ∀ (w : World) (mg : Str → Option Value) (h : Heap), (K w.params).In h → h.Ns mainGlobals mg → TopFn (K w.params) mg "law" st ∧
      ∀ fd, Fun (K w.params) "law" "law" st (ca mg "law") fd → mg "law" = some (.ref (ca mg "law")) → ∀ base : Heap, FnOk l.prog w (K w.params) mg base (L2.CX l.prog w) k (ca mg "law") fd [x] (spD (K w.params) mg spLaw)) :
    PySem.W.WalkO q loose XP YP l.row.toRowW d [] (fun f vs => PySem.call f vs) := by
  refine L2.walk_of (n := 63) (k := k) (x := x) (CX := fun w => L2.CX l.prog w) (sp := fun w => fun vs H Q E => ∃ (a : Addr) (ns : List Int), vs = [.ref a] ∧ ns.length ≤ 63 ∧ SqL (K w.params) H a (ns.map V.int) ∧ ∀ H', Q (.bl true) H') hn (by decide) hdf hr hY ?_ ?_ ?_
  · intro w mg fa h KX G hmg
    rw [hd] at hmg
    obtain ⟨⟨gm, fd, Fu⟩, FF⟩ := F w mg h KX G
    have e : ca mg "law" = fa := Value.ref.inj (Option.some.inj (gm.symm.trans hmg))
    have FF := FF fd Fu gm
    rw [e] at Fu FF
    refine ⟨fd, fun s u => ?_, fun base _ _ => (FF base).imp ?_⟩
    · obtain ⟨_, _, kV, doc, pm, an, cdv, ct, _, hfd, _, _⟩ := Fu.ex
      rw [hfd]
      exact .of_eq (hbd kV doc pm an cdv ct u)
    · rintro vs H Q E ⟨a, ns, rfl, hl, hS, hq⟩
      refine ⟨fun _ => none, H, [.scr ns], fun _ => none, fun d _ => d = .bl true, fun _ _ _ => False, ⟨Ex.refl _, (fun p c h => by cases h), (fun p o h => by cases h)⟩, .cons (.scr hS) .nil, ⟨ns, rfl, hl, fun _ => rfl⟩, ?_, fun _ _ _ _ _ _ _ z => z.elim⟩
      rintro v H' Hb' d M' rfl _ _ r
      rw [rep_bl r]; exact hq H'
  · intro w H a ns hl hO hS
    exact ⟨a, ns, rfl, hl, hS, fun _ => rfl⟩
  · rintro w H s e s' ⟨_, _, _, _, _, _, _, _, _, _, _, _, z⟩
    exact z
end L3
/-! ### 31. (a, *b) = a list, a tuple -/
namespace L3
open PySem PySem.Spec PySem.Calls PySem.W PyProof.Rows L2
section
variable {prog : Program} {w : World} {A : Around} {E : Value → Shared → Prop} {s : Shared}
theorem star_listI {l : Addr} {its : Array Value} {i : Nat} {Q : List Value → Shared → Prop} (hl : s.heap.IsList l its) (hh : A.handled = none) (hi : i ≤ its.size) (hz : its.size ≤ 1000000)
    (h : ∀ h' tk, Heap.ExtBut s.heap.objs.size s.heap h' → Q (its.toList.take i ++ [.ref h'.objs.size]) { s with heap := h'.push { cls := .type "list", data := .seq (its.toList.drop i).toArray }, toks := tk }) :
    wpAny (model prog w) A (unpackItems (.ref l) (i + 1) (some i)) Q E s := by
  obtain ⟨o, ho, hrest⟩ := id hl
  have ne : l ≠ s.heap.objs.size := Nat.ne_of_lt (Heap.lt_size ho)
  unfold unpackItems; refine wpAny_bind ?_
  unfold notIterableAtAll; refine wpAny_bind (wpAny_specialOf hl.typeIs slot_list_iter.lookup (wpAny_pure ?_))
  simp only [Bool.false_eq_true, if_false]; refine wpAny_bind (wpAny_holding (wpAny_pyIter_list hl ?_))
  refine wpAny_bind (wpAny_holding (kun_draw ne i 0 _ _ ⟨_, Heap.get?_push_size _ rfl, rfl, rfl⟩ (hl.push _) (by omega) fun h1 it1 sb => ?_))
  have hl1 : h1.IsList l its := (hl.push _).extBut sb.extBut ne
  rw [Nat.zero_add] at it1; rw [List.drop_zero]
  obtain ⟨o1, e1, _⟩ := id it1; obtain ⟨o2, e2, _⟩ := id hl1
  have fl : (its.toList.take i).length = i := by rw [List.length_take, Array.length_toList]; omega
  rw [if_neg (show ¬ (its.toList.take i).length < i by omega)]
  refine wpAny_bind (wpAny_holding (kun_collect (s := { s with heap := h1 }) (T := "list_iterator") (.inr (.inr (.inl rfl))) (Walks.list (A := A.in1) hh s.heap.objs.size l ne its) (fun _ _ st => st.1.typeIs) hi ⟨it1, hl1⟩ (Heap.lt_size e1) (Heap.lt_size e2) (fun h2 tk hk => ?_) (by rw [sizeLine_eq]; omega)))
  have e0 : i + 1 - 1 - i = 0 := by omega
  simp only [e0, Nat.not_lt_zero, if_false, Nat.sub_zero]
  rw [List.take_of_length_le (Nat.le_refl _), List.drop_of_length_le (Nat.le_refl _)]
  have ex : Heap.ExtBut s.heap.objs.size s.heap h2 := fun b o hb e => hk b o hb (sb.extBut b o hb (Heap.get?_push_of_some _ e))
  refine wpAny_bind (wpAny_newList (s := { s with heap := h2, toks := tk }) (wpAny_pure ?_) (by rw [List.length_drop, Array.length_toList, sizeLine_eq]; omega))
  rw [List.append_nil]
  exact h h2 tk ex
theorem star_tupI {l : Addr} {its : Array Value} {i : Nat} {Q : List Value → Shared → Prop} (hl : IsTup s.heap l its) (hh : A.handled = none) (hi : i ≤ its.size) (hz : its.size ≤ 1000000)
    (h : ∀ h' tk, Heap.ExtBut s.heap.objs.size s.heap h' → Q (its.toList.take i ++ [.ref h'.objs.size]) { s with heap := h'.push { cls := .type "list", data := .seq (its.toList.drop i).toArray }, toks := tk }) :
    wpAny (model prog w) A (unpackItems (.ref l) (i + 1) (some i)) Q E s := by
  obtain ⟨o, ho, hrest⟩ := id hl
  have ne : l ≠ s.heap.objs.size := Nat.ne_of_lt (Heap.lt_size ho)
  unfold unpackItems; refine wpAny_bind ?_
  unfold notIterableAtAll; refine wpAny_bind (wpAny_specialOf hl.typeIs slot_tuple_iter.lookup (wpAny_pure ?_))
  simp only [Bool.false_eq_true, if_false]; refine wpAny_bind (wpAny_holding (iter_tuple hl ?_))
  refine wpAny_bind (wpAny_holding (draw_tuple ne i 0 _ _ ⟨_, Heap.get?_push_size _ rfl, rfl, rfl⟩ (hl.push _) (by omega) fun h1 it1 sb => ?_))
  have hl1 : IsTup h1 l its := (hl.push _).extBut sb.extBut ne
  rw [Nat.zero_add] at it1; rw [List.drop_zero]
  obtain ⟨o1, e1, _⟩ := id it1; obtain ⟨o2, e2, _⟩ := id hl1
  have fl : (its.toList.take i).length = i := by rw [List.length_take, Array.length_toList]; omega
  rw [if_neg (show ¬ (its.toList.take i).length < i by omega)]
  refine wpAny_bind (wpAny_holding (kun_collect (s := { s with heap := h1 }) (T := "tuple_iterator") (.inr (.inr (.inr rfl))) (Walks.tuple (A := A.in1) hh s.heap.objs.size l ne its) (fun _ _ st => st.1.typeIs) hi ⟨it1, hl1⟩ (Heap.lt_size e1) (Heap.lt_size e2) (fun h2 tk hk => ?_) (by rw [sizeLine_eq]; omega)))
  have e0 : i + 1 - 1 - i = 0 := by omega
  simp only [e0, Nat.not_lt_zero, if_false, Nat.sub_zero]
  rw [List.take_of_length_le (Nat.le_refl _), List.drop_of_length_le (Nat.le_refl _)]
  have ex : Heap.ExtBut s.heap.objs.size s.heap h2 := fun b o hb e => hk b o hb (sb.extBut b o hb (Heap.get?_push_of_some _ e))
  refine wpAny_bind (wpAny_newList (s := { s with heap := h2, toks := tk }) (wpAny_pure ?_) (by rw [List.length_drop, Array.length_toList, sizeLine_eq]; omega))
  rw [List.append_nil]
  exact h h2 tk ex
end
section
variable {X : Cx} {pos : Pos}
/-- a, *b = v -/
def gStar (K : PySem.W.Frag) (i : Nat) (t : TGs) : TG := fun v σ H Q => ∃ a xs, v = .ref a ∧ (SqT K H a xs ∨ SqL K H a xs) ∧ i ≤ xs.length ∧ xs.length ≤ 1000000 ∧ ∀ d, H d = none → t (xs.take i ++ [.ref d]) σ (upd H d (.lst (xs.drop i))) Q
theorem vals_take {vs : List V} {us : List Value} (r : Vals vs us) : ∀ i : Nat, Vals (vs.take i) (us.take i) := by
  induction r with
  | nil => intro i; simp; exact .nil
  | cons a b ih =>
    intro i
    cases i with
    | zero => exact .nil
    | succ i => exact .cons a (ih i)
theorem vals_drop {vs : List V} {us : List Value} (r : Vals vs us) : ∀ i : Nat, Vals (vs.drop i) (us.drop i) := by
  induction r with
  | nil => intro i; simp; exact .nil
  | cons a b ih =>
    intro i
    cases i with
    | zero => exact .cons a b
    | succ i => exact ih i
theorem pg_star {es : List Expr} {k i : Nat} {t : TGs} (hc : X.calm = true) (h : PGs X es t) (hn : (assignEach es X.env).length = i + 1) (hst : (assignEach es X.env).findIdx? (·.1) = some i) : PG X (.Tuple es k pos) (gStar X.K i t) := by
  refine ⟨fun pins s σ H v u Q I r ⟨a, xs, ev, hq, h1, h2, hw⟩ => ?_⟩
  subst ev
  cases r
  have fin : ∀ (its : List Value) (h' : Heap) (tk : Nat), Vals xs its → Heap.ExtBut s.heap.objs.size s.heap h' → wpAny (model X.prog X.w) X.A (assignInOrder ((assignEach es X.env).map (·.2)) (its.take i ++ [.ref h'.objs.size])) (fun _ s' => ∃ σ' H', Inv X pins σ' H' s' ∧ Q σ' H') X.xe { s with heap := h'.push { cls := .type "list", data := .seq (its.drop i).toArray }, toks := tk } := by
    intro its h' tk rv ex
    have I1 : Inv X pins σ H { s with heap := h', toks := tk } := Inv.kept I fun b u e => ex b u (Nat.ne_of_lt (Heap.lt_size e)) e
    have nf : H h'.objs.size = none := HOk.fresh I1.hok (Nat.le_refl _)
    have I2 : Inv X pins σ (upd H h'.objs.size (.lst (xs.drop i))) { s with heap := h'.push { cls := .type "list", data := .seq (its.drop i).toArray }, toks := tk } :=
      Inv.laid (s := { s with heap := h', toks := tk }) I1 (t' := tk) (fun b u e => Heap.get?_push_of_some _ e) (Nat.le_refl _) ⟨by rw [List.length_drop, sizeLine_eq]; omega, its.drop i, 0, vals_drop rv i, Heap.get?_push_size _ rfl⟩
    exact h.run pins _ σ _ _ _ Q I2 (Vals.append (vals_take rv i) (.cons (show RelV (.ref h'.objs.size) (.ref h'.objs.size) from rfl) .nil)) (hw _ nf)
  rw [assign_Tuple]
  refine wpAny_bind (wpAny_standAt ?_)
  unfold unpack
  rw [hn, hst]
  rcases hq with hq | hq
  · obtain ⟨its, rv, p, hz⟩ := Inv.tuple I hq
    refine wpAny_bind (wpAny_holding (star_tupI (its := its.toArray) p (I.ok.hd hc) (by rw [List.size_toArray, ← rv.length]; exact h1) (by rw [List.size_toArray, ← rv.length]; exact h2) fun h' tk ex => ?_))
    exact fin its h' tk rv ex
  · obtain ⟨its, rv, p, hz⟩ := Inv.list I hq
    refine wpAny_bind (wpAny_holding (star_listI (its := its.toArray) p.isList (I.ok.hd hc) (by rw [List.size_toArray, ← rv.length]; exact h1) (by rw [List.size_toArray, ← rv.length]; exact h2) fun h' tk ex => ?_))
    exact fin its h' tk rv ex
end
section
variable {X : Cx} {w : Wi} {Γ : Ga} {M : Mm} {vs : List Nat} {QG : Ga → Mm → Prop} {es : List Expr} {e : Expr} {d : D} {ds : List D} {k kk i : Nat} {n : Nm} {pos p : Pos}
theorem rep_take {K : PySem.W.Frag} {mg : Str → Option Value} {Hb H : Hp} {v : V} {d : D} {ds : List D} (r : Rep K mg Hb v d) (e : Ex Hb H) (h : d.seq = some ds) : ∃ a us, v = .ref a ∧ (SqT K H a us ∨ SqL K H a us) ∧ Reps K mg Hb us ds := rep_seq r e h
theorem dgv_star (S : Sc X k n) (hd : d.seq = some ds) (hi : i ≤ ds.length) (hz : ds.length ≤ 1000000) (hn : (assignEach es X.env).length = i + 1) (hst : (assignEach es X.env).findIdx? (·.1) = some i) (h : DGs X w vs es (ds.take i ++ [.lst (ds.drop i)]) Γ M QG) : DGV X w vs (.Tuple es kk pos) d Γ M QG := .mk fun F σ H Hb v A r => by
  obtain ⟨a, us, ev, hq, rs⟩ := rep_seq r A.hs.ex hd
  have el := rs.length
  refine semG_of (pg_star S.calm semGs_ok hn hst) ⟨a, us, ev, hq, by rw [el]; exact hi, by rw [el]; exact hz, fun q nq => ?_⟩
  obtain ⟨ex, A2⟩ := A.new nq (.lst (us.drop i))
  have hq2 := h.run F σ _ _ _ A2 (((rs.take i).mono ex).append (.cons (.lst upd_same ((rs.drop i).mono ex)) .nil))
  exact semGs_mono hq2 fun σ2 H2 ⟨w2, q2⟩ => ⟨w2, q2.back ex⟩
theorem dgs_consS (hs : (assignEach (.Starred e p :: es) X.env).map (·.2) = assign e X.env :: (assignEach es X.env).map (·.2)) (h : DGV X w vs e d Γ M fun Γ1 M1 => DGs X w vs es ds Γ1 M1 QG) : DGs X w vs (.Starred e p :: es) (d :: ds) Γ M QG := .mk fun F σ H Hb us A r => by
  cases r with
  | cons r1 r2 =>
    have z : PGs X (.Starred e p :: es) (gCons (semG X e) (semGs X es)) := .mk fun pins s σ' H' ws us' Q' I rr ⟨v1, vr, e1, z1⟩ => by
      subst e1
      cases rr with
      | cons a b =>
        rw [hs]
        exact assignInOrder_cons (thn (PG.run semG_ok pins s σ' H' _ _ _ I a z1) fun _ s1 ⟨σ1, H1, I1, q1⟩ => PGs.run semGs_ok pins s1 σ1 H1 _ _ _ I1 b q1)
    refine semGs_of z ⟨_, _, rfl, ?_⟩
    refine semG_mono (h.run F σ H Hb _ A r1) fun σ1 H1 ⟨w1, Hb1, Γ1, M1, e1, A1, q1⟩ => ?_
    exact semGs_mono (q1.run F σ1 H1 Hb1 _ A1 (r2.mono e1)) fun σ2 H2 ⟨w2, q2⟩ => ⟨w2.trans w1, q2.back e1⟩
theorem dg_tupA (S : Sc X k n) (hd : d.seq = some ds) (hn : (assignEach es X.env).length = ds.length) (hst : (assignEach es X.env).findIdx? (·.1) = none) (h : DGs X w (List.range 64) es ds Γ M QG) : DG X w (.Tuple es kk pos) d Γ M QG := dg_dgv (dgv_tup S hd hn hst h)
theorem dg_starA (S : Sc X k n) (hd : d.seq = some ds) (hn : (assignEach es X.env).length = i + 1) (hst : (assignEach es X.env).findIdx? (·.1) = some i) (hi : i ≤ ds.length) (hz : ds.length ≤ 1000000) (h : DGs X w (List.range 64) es (ds.take i ++ [.lst (ds.drop i)]) Γ M QG) : DG X w (.Tuple es kk pos) d Γ M QG := dg_dgv (dgv_star S hd hi hz hn hst h)
theorem hGs (h : DGs X w vs es ds Γ M QG) : DGs X w vs es ds Γ M QG := h
theorem hGV (h : DGV X w vs e d Γ M QG) : DGV X w vs e d Γ M QG := h
end
/-! ### 32. Constants of the module; what is walked; chains -/
/-- the module's name x holds the constant d -/
structure Gc (mg : Str → Option Value) (x : Str) (d : D) : Prop where
  ex : ∃ v u, mg x = some u ∧ RelV v u ∧ ∀ K mg' Hb, Rep K mg' Hb v d
theorem Gc.str {K : PySem.W.Frag} {h : Heap} {mg : Str → Option Value} {x s : Str} {t : Tok} (X : K.In h) (G : h.Ns mainGlobals mg) (a : PySem.W.nsIn K mainGlobals x = some (some (.str s t))) : Gc mg x (.str s) := ⟨.str s, _, PySem.W.mg_of X G a, ⟨t, rfl⟩, fun _ _ _ => .str⟩
theorem Gc.int {K : PySem.W.Frag} {h : Heap} {mg : Str → Option Value} {x : Str} {i : Int} {t : Tok} (X : K.In h) (G : h.Ns mainGlobals mg) (a : PySem.W.nsIn K mainGlobals x = some (some (.int i t))) : Gc mg x (.int i) := ⟨.int i, _, PySem.W.mg_of X G a, ⟨t, rfl⟩, fun _ _ _ => .int⟩
section
variable {X : Cx} {w : Wi} {Γ : Ga} {M : Mm} {Q : D → Mm → Prop} {QL : List D → Mm → Prop} {x : Str} {d : D} {k : Nat} {n : Nm} {pos : Pos} {tg iter : Expr}
theorem de_glob (S : Sc X k n) (hx : x ∈ n.glb) (g : Gc X.mg x d) (q : Q d M) : DE X w (.Name x pos) Γ M Q := .mk fun F σ H Hb A => by
  obtain ⟨v, u, h1, h2, h3⟩ := g.ex
  exact semE_of (pe_glob (S.gl x hx).1 h1 h2 (okN_d (S.gl x hx).2)) (A.val (Ex.refl _) (h3 _ _ _) q)
def chD (s : Str) : List D := s.cps.toList.map fun c => .str (tx [c])
theorem itd_str {s : Str} {Hb : Hp} : ItD X (Its s) (chD s) Hb := fun i F Hb' H M e hs => by
  unfold chD
  rw [List.length_map]
  refine ⟨fun hi => ⟨show i < s.cps.size by simpa using hi, fun v H' ⟨e1, c, e2, e3⟩ => ?_⟩, fun hi => show s.cps.size ≤ i by simpa using hi⟩
  subst e1 e3
  refine ⟨Hb', .str (tx [c]), Ex.refl _, hs, ?_, .str⟩
  rw [List.getElem?_map, Array.getElem?_toList, e2]; rfl
/-- what a for walks: a list, a tuple, a text -/
theorem di_it (h : DE X w iter Γ M fun d M1 => (∃ ds, d.seq = some ds ∧ QL ds M1) ∨ ∃ s, d = .str s ∧ QL (chD s) M1) : DI X w tg iter Γ M QL := .mk fun F σ H Hb A => by
  intro pins s I
  refine thn (h.run F σ H Hb A pins s I) fun u s1 ⟨v, H1, I1, r1, Hb1, d, M1, e1, A1, rr, q⟩ => ?_
  rcases q with ⟨ds, hd, q⟩ | ⟨z, rfl, q⟩
  · cases rr with
    | tup h1 h2 =>
      cases hd; cases r1
      exact walkT I1 (ex_t A1.hs.ex h1) ⟨Hb1, M1, _, e1, A1, itd_tup h1 h2, q⟩
    | lst h1 h2 =>
      cases hd; cases r1
      exact walkL I1 (SqL.of (A1.hs.ex _ _ h1)) ⟨Hb1, M1, _, e1, A1, itd_list h1 h2, q⟩
    | _ => cases hd
  · cases rr
    obtain ⟨t, rfl⟩ := r1
    have fin : ∃ Hb1' M1' ds, Ex Hb Hb1' ∧ At X w F Hb1' H1 σ Γ M1' ∧ ItD X (Its z) ds Hb1' ∧ QL ds M1' := ⟨Hb1, M1, _, e1, A1, itd_str, q⟩
    cases ha : z.cps.all (· < 128)
    · exact wpAny_pyIter_wide ha ⟨_, [s1.heap.objs.size], _, _, H1, rfl, Inv.kept I1 (t' := s1.toks) (fun _ _ e => Heap.get?_push_of_some _ e), turn_str _ z t "str_iterator" (.inr rfl), ⟨_, Heap.get?_push_size _ rfl, rfl, rfl⟩, fp_one I1, fin⟩
    · exact wpAny_pyIter_ascii ha ⟨_, [s1.heap.objs.size], _, _, H1, rfl, Inv.kept I1 (t' := s1.toks) (fun _ _ e => Heap.get?_push_of_some _ e), turn_str _ z t "str_ascii_iterator" (.inl rfl), ⟨_, Heap.get?_push_size _ rfl, rfl, rfl⟩, fp_one I1, fin⟩
theorem lf_itL {ds : List D} {R : List D → Prop} {B : Prop} (h : R ds) : (∃ xs, D.seq (.lst ds) = some xs ∧ R xs) ∨ B := .inl ⟨_, rfl, h⟩
theorem lf_itT {ds : List D} {R : List D → Prop} {B : Prop} (h : R ds) : (∃ xs, D.seq (.tup ds) = some xs ∧ R xs) ∨ B := .inl ⟨_, rfl, h⟩
theorem lf_itS {s : Str} {R : Str → Prop} {B : Prop} (h : R s) : B ∨ ∃ z, D.str s = .str z ∧ R z := .inr ⟨_, rfl, h⟩
/-- the cases of a plain value -/
theorem D.smc {n : Nat} {d : D} (h : D.sm n d = true) : d = .non ∨ (∃ b, d = .bl b) ∨ (∃ i, d = .int i) ∨ (∃ l, d = .str (tx l) ∧ l.length ≤ 1000000) ∨ (∃ ds, d = .tup ds) ∨ ∃ ds, d = .lst ds := by
  cases d with
  | non => exact .inl rfl
  | bl b => exact .inr (.inl ⟨_, rfl⟩)
  | int i => exact .inr (.inr (.inl ⟨_, rfl⟩))
  | str s => exact .inr (.inr (.inr (.inl ⟨s.cps.toList, rfl, by cases n <;> (simp only [D.sm, Bool.and_eq_true] at h; exact of_decide_eq_true h.2)⟩)))
  | tup ds => exact .inr (.inr (.inr (.inr (.inl ⟨_, rfl⟩))))
  | lst ds => exact .inr (.inr (.inr (.inr (.inr ⟨_, rfl⟩))))
  | _ => cases n <;> cases h
theorem sm_okk {n : Nat} {d : D} (h : D.sm n d = true) (l : n ≤ 60) : D.ok 60 d = true := D.ok_le (D.sm_ok h) l
theorem sm_strok {n : Nat} {s : Str} (h : D.sm n (.str s) = true) : PyData.strOk s = true ∧ s.cps.toList.length ≤ 1000000 := by
  cases n <;> (simp only [D.sm, Bool.and_eq_true] at h; exact ⟨h.1, of_decide_eq_true h.2⟩)
theorem sm_lsts {n : Nat} {ds : List D} (h : D.sm n (.lst ds) = true) : ∃ m, n = m + 1 ∧ ds.length ≤ 1000000 ∧ D.sms m ds = true := by
  cases n with
  | zero => cases h
  | succ m => simp only [D.sm, Bool.and_eq_true] at h; exact ⟨m, rfl, of_decide_eq_true h.1, h.2⟩
theorem sm_tups {n : Nat} {ds : List D} (h : D.sm n (.tup ds) = true) : ∃ m, n = m + 1 ∧ ds.length ≤ 1000000 ∧ D.sms m ds = true := by
  cases n with
  | zero => cases h
  | succ m => simp only [D.sm, Bool.and_eq_true] at h; exact ⟨m, rfl, of_decide_eq_true h.1, h.2⟩
theorem sms_consI {n : Nat} {d : D} {ds : List D} (h : D.sms n (d :: ds) = true) : D.sm n d = true ∧ D.sms n ds = true := by
  simpa [D.sms, Bool.and_eq_true] using h
end
section
variable {M : Mm} {Q : D → Mm → Prop} {α : Type} {p : α → Bool} {l : List α} {A B : Bool → Prop} {k : Nat} {s : Str}
theorem lf_nbT (h : B false) : ∃ c', D.bl (!true) = .bl c' ∧ (c' = true → A c') ∧ (c' = false → B c') := ⟨false, rfl, fun e => (by cases e), fun _ => h⟩
theorem lf_nbF (h : A true) : ∃ c', D.bl (!false) = .bl c' ∧ (c' = true → A c') ∧ (c' = false → B c') := ⟨true, rfl, fun _ => h, fun e => (by cases e)⟩
theorem lf_allm (h : Q (.bl (l.all p)) M) : ∃ bs : List Bool, D.lst (l.map fun c => .bl (p c)) = .lst (bs.map .bl) ∧ Q (.bl (bs.all id)) M := ⟨l.map p, by rw [List.map_map]; rfl, by rw [List.all_map]; exact h⟩
theorem lf_anym (h : Q (.bl (l.any p)) M) : ∃ bs : List Bool, D.lst (l.map fun c => .bl (p c)) = .lst (bs.map .bl) ∧ Q (.bl (bs.any id)) M := ⟨l.map p, by rw [List.map_map]; rfl, by rw [List.any_map]; exact h⟩
theorem lf_inS (h : Q (.bl (decide (k ∈ s.cps.toList))) M) : pIn false (.str (tx [k])) (.str s) M Q := ⟨k, rfl, h⟩
theorem lf_ninS (h : Q (.bl (!decide (k ∈ s.cps.toList))) M) : pIn true (.str (tx [k])) (.str s) M Q := ⟨k, rfl, h⟩
end
theorem qb {Q : D → Mm → Prop} {b c : Bool} {M : Mm} (q : Q (.bl b) M) (e : b = c) : Q (.bl c) M := e ▸ q
theorem dT {p : Prop} [Decidable p] (h : decide p = true) : p := of_decide_eq_true h
theorem dF {p : Prop} [Decidable p] (h : decide p = false) : ¬ p := of_decide_eq_false h
theorem sm_le {n m : Nat} {d : D} (h : D.sm n d = true) (l : n ≤ m) : D.sm m d = true := by
  have up : (∀ n (d : D), D.sm n d = true → D.sm (n + 1) d = true) := by
    intro n
    induction n with
    | zero => intro d h; cases d <;> first | exact h | cases h
    | succ n ih =>
      intro d h
      have all : ∀ ds : List D, D.sms n ds = true → D.sms (n + 1) ds = true := fun ds hd => D.sms_of fun x hx => ih x (D.sms_mem hd hx)
      cases d with
      | tup ds => simp only [D.sm, Bool.and_eq_true] at h ⊢; exact ⟨h.1, all ds h.2⟩
      | lst ds => simp only [D.sm, Bool.and_eq_true] at h ⊢; exact ⟨h.1, all ds h.2⟩
      | _ => first | exact h | cases h
  induction l with
  | refl => exact h
  | step _ ih => exact up _ _ ih
theorem sm7 {d : D} (h : D.sm 7 d = true) : D.sm 8 d = true := sm_le h (by decide)
theorem sm6 {d : D} (h : D.sm 6 d = true) : D.sm 8 d = true := sm_le h (by decide)
section
variable {p : Prop} [Decidable p] {A B : Bool → Prop} {A0 B0 : Prop} {b : Bool}
theorem lf_dcT (h : p) (k : A true) : ∃ c', D.bl (decide p) = .bl c' ∧ (c' = true → A c') ∧ (c' = false → B c') := ⟨true, by rw [decide_eq_true h], fun _ => k, fun e => (by cases e)⟩
theorem lf_dcF (h : ¬ p) (k : B false) : ∃ c', D.bl (decide p) = .bl c' ∧ (c' = true → A c') ∧ (c' = false → B c') := ⟨false, by rw [decide_eq_false h], fun e => (by cases e), fun _ => k⟩
theorem lf_dc2 (k1 : p → A true) (k2 : ¬ p → B false) : ∃ c', D.bl (decide p) = .bl c' ∧ (c' = true → A c') ∧ (c' = false → B c') := by
  by_cases h : p
  · exact lf_dcT h (k1 h)
  · exact lf_dcF h (k2 h)
theorem lf_ndcT (h : p) (k : B false) : ∃ c', D.bl (!decide p) = .bl c' ∧ (c' = true → A c') ∧ (c' = false → B c') := ⟨false, by rw [decide_eq_true h]; rfl, fun e => (by cases e), fun _ => k⟩
theorem lf_ndcF (h : ¬ p) (k : A true) : ∃ c', D.bl (!decide p) = .bl c' ∧ (c' = true → A c') ∧ (c' = false → B c') := ⟨true, by rw [decide_eq_false h]; rfl, fun _ => k, fun e => (by cases e)⟩
theorem lf_ndc2 (k1 : ¬ p → A true) (k2 : p → B false) : ∃ c', D.bl (!decide p) = .bl c' ∧ (c' = true → A c') ∧ (c' = false → B c') := by
  by_cases h : p
  · exact lf_ndcT h (k2 h)
  · exact lf_ndcF h (k1 h)
theorem lf_nd2 (k1 : ¬ p → A0) (k2 : p → B0) : ((!decide p) = true → A0) ∧ ((!decide p) = false → B0) := ⟨fun h => k1 (by simpa using h), fun h => k2 (by simpa using h)⟩
theorem lf_ndT (h : p) (k : B0) : ((!decide p) = true → A0) ∧ ((!decide p) = false → B0) := lf_nd2 (fun z => absurd h z) fun _ => k
theorem lf_ndF (h : ¬ p) (k : A0) : ((!decide p) = true → A0) ∧ ((!decide p) = false → B0) := lf_nd2 (fun _ => k) fun z => absurd z h
theorem lf_nb2 (k1 : b = false → A0) (k2 : b = true → B0) : ((!b) = true → A0) ∧ ((!b) = false → B0) := ⟨fun h => k1 (by simpa using h), fun h => k2 (by simpa using h)⟩
theorem lf_pd2 (k1 : p → A0) (k2 : ¬ p → B0) : ((decide p) = true → A0) ∧ ((decide p) = false → B0) := ⟨fun h => k1 (dT h), fun h => k2 (dF h)⟩
theorem lf_pdT (h : p) (k : A0) : ((decide p) = true → A0) ∧ ((decide p) = false → B0) := lf_pd2 (fun _ => k) fun z => absurd h z
theorem lf_pdF (h : ¬ p) (k : B0) : ((decide p) = true → A0) ∧ ((decide p) = false → B0) := lf_pd2 (fun z => absurd z h) fun _ => k
end
section
variable {b b2 : Bool} {i i2 : Int} {s s2 : Str} {ds ds2 : List D} {n : Nat} {d x y : D} {M : Mm} {Q : D → Mm → Prop} {p : Addr} {c : Bool}
theorem eq_non_bl : D.eq .non (.bl b2) = false := by
  show PyData.eqv .none (.bool b2) = false
  simp [PyData.eqv]
theorem eq_non_int : D.eq .non (.int i2) = false := by
  show PyData.eqv .none (.int i2) = false
  simp [PyData.eqv]
theorem eq_non_str : D.eq .non (.str s2) = false := by
  show PyData.eqv .none (.str s2) = false
  simp [PyData.eqv]
theorem eq_non_tup : D.eq .non (.tup ds2) = false := by
  show PyData.eqv .none (.tuple (D.pys ds2)) = false
  simp [PyData.eqv]
theorem eq_non_lst : D.eq .non (.lst ds2) = false := by
  show PyData.eqv .none (.list (D.pys ds2)) = false
  simp [PyData.eqv]
theorem eq_bl_non : D.eq (.bl b) .non = false := by
  show PyData.eqv (.bool b) .none = false
  simp [PyData.eqv]
theorem eq_bl_str : D.eq (.bl b) (.str s2) = false := by
  show PyData.eqv (.bool b) (.str s2) = false
  simp [PyData.eqv]
theorem eq_bl_tup : D.eq (.bl b) (.tup ds2) = false := by
  show PyData.eqv (.bool b) (.tuple (D.pys ds2)) = false
  simp [PyData.eqv]
theorem eq_bl_lst : D.eq (.bl b) (.lst ds2) = false := by
  show PyData.eqv (.bool b) (.list (D.pys ds2)) = false
  simp [PyData.eqv]
theorem eq_int_non : D.eq (.int i) .non = false := by
  show PyData.eqv (.int i) .none = false
  simp [PyData.eqv]
theorem eq_int_str : D.eq (.int i) (.str s2) = false := by
  show PyData.eqv (.int i) (.str s2) = false
  simp [PyData.eqv]
theorem eq_int_tup : D.eq (.int i) (.tup ds2) = false := by
  show PyData.eqv (.int i) (.tuple (D.pys ds2)) = false
  simp [PyData.eqv]
theorem eq_int_lst : D.eq (.int i) (.lst ds2) = false := by
  show PyData.eqv (.int i) (.list (D.pys ds2)) = false
  simp [PyData.eqv]
theorem eq_str_non : D.eq (.str s) .non = false := by
  show PyData.eqv (.str s) .none = false
  simp [PyData.eqv]
theorem eq_str_bl : D.eq (.str s) (.bl b2) = false := by
  show PyData.eqv (.str s) (.bool b2) = false
  simp [PyData.eqv]
theorem eq_str_int : D.eq (.str s) (.int i2) = false := by
  show PyData.eqv (.str s) (.int i2) = false
  simp [PyData.eqv]
theorem eq_str_tup : D.eq (.str s) (.tup ds2) = false := by
  show PyData.eqv (.str s) (.tuple (D.pys ds2)) = false
  simp [PyData.eqv]
theorem eq_str_lst : D.eq (.str s) (.lst ds2) = false := by
  show PyData.eqv (.str s) (.list (D.pys ds2)) = false
  simp [PyData.eqv]
theorem eq_tup_non : D.eq (.tup ds) .non = false := by
  show PyData.eqv (.tuple (D.pys ds)) .none = false
  simp [PyData.eqv]
theorem eq_tup_bl : D.eq (.tup ds) (.bl b2) = false := by
  show PyData.eqv (.tuple (D.pys ds)) (.bool b2) = false
  simp [PyData.eqv]
theorem eq_tup_int : D.eq (.tup ds) (.int i2) = false := by
  show PyData.eqv (.tuple (D.pys ds)) (.int i2) = false
  simp [PyData.eqv]
theorem eq_tup_str : D.eq (.tup ds) (.str s2) = false := by
  show PyData.eqv (.tuple (D.pys ds)) (.str s2) = false
  simp [PyData.eqv]
theorem eq_tup_lst : D.eq (.tup ds) (.lst ds2) = false := by
  show PyData.eqv (.tuple (D.pys ds)) (.list (D.pys ds2)) = false
  simp [PyData.eqv]
theorem eq_lst_non : D.eq (.lst ds) .non = false := by
  show PyData.eqv (.list (D.pys ds)) .none = false
  simp [PyData.eqv]
theorem eq_lst_bl : D.eq (.lst ds) (.bl b2) = false := by
  show PyData.eqv (.list (D.pys ds)) (.bool b2) = false
  simp [PyData.eqv]
theorem eq_lst_int : D.eq (.lst ds) (.int i2) = false := by
  show PyData.eqv (.list (D.pys ds)) (.int i2) = false
  simp [PyData.eqv]
theorem eq_lst_str : D.eq (.lst ds) (.str s2) = false := by
  show PyData.eqv (.list (D.pys ds)) (.str s2) = false
  simp [PyData.eqv]
theorem eq_lst_tup : D.eq (.lst ds) (.tup ds2) = false := by
  show PyData.eqv (.list (D.pys ds)) (.tuple (D.pys ds2)) = false
  simp [PyData.eqv]
theorem eqs_c0 : PyData.eqvAll (D.pys (d :: ds)) (D.pys []) = false := by
  show PyData.eqvAll (d.py :: _) [] = false
  rw [PyData.eqvAll]
theorem eqs_0c : PyData.eqvAll (D.pys []) (D.pys (d :: ds)) = false := by
  show PyData.eqvAll [] (d.py :: _) = false
  rw [PyData.eqvAll]
theorem eq_nn : D.eq .non .non = true := rfl
theorem ok_int : D.ok n (.int i) = true := by cases n <;> rfl
theorem ok_bl : D.ok n (.bl b) = true := by cases n <;> rfl
theorem ok_non : D.ok n .non = true := by cases n <;> rfl
theorem ok_str (h : PyData.strOk s = true) : D.ok n (.str s) = true := by cases n <;> simpa [D.ok, PyData.canLay0] using h
theorem ok_lst (h : D.oks n ds = true) : D.ok (n + 1) (.lst ds) = true := h
theorem ok_tup (h : D.oks n ds = true) : D.ok (n + 1) (.tup ds) = true := h
theorem oks_nil : D.oks n [] = true := rfl
theorem oks_cons (h : D.ok n d = true) (t : D.oks n ds = true) : D.oks n (d :: ds) = true := by
  show (D.ok n d && D.oks n ds) = true
  rw [Bool.and_eq_true]; exact ⟨h, t⟩
theorem sms_okk {m : Nat} (h : D.sms m ds = true) (l : m ≤ n) : D.oks n ds = true := D.oks_of fun d hd => D.ok_le (D.sm_ok (D.sms_mem h hd)) l
theorem lf_inT' (h1 : D.ok 60 x = true) (h2 : D.oks 59 ds = true) (e : D.mem x ds = c) (h : Q (.bl c) M) : pIn false x (.tup ds) M Q := lf_inT h1 h2 (e ▸ h)
theorem lf_inL' (h1 : D.ok 60 x = true) (h2 : D.oks 59 ds = true) (e : D.mem x ds = c) (h : Q (.bl c) M) : pIn false x (.lst ds) M Q := lf_inL h1 h2 (e ▸ h)
theorem lf_inP' (m : M p = some (.l ds)) (h1 : D.ok 60 x = true) (h2 : D.oks 59 ds = true) (e : D.mem x ds = c) (h : Q (.bl c) M) : pIn false x (.ptr p) M Q := lf_inP m h1 h2 (e ▸ h)
theorem lf_ninT' (h1 : D.ok 60 x = true) (h2 : D.oks 59 ds = true) (e : D.mem x ds = c) (h : Q (.bl (!c)) M) : pIn true x (.tup ds) M Q := lf_ninT h1 h2 (e ▸ h)
theorem lf_ninL' (h1 : D.ok 60 x = true) (h2 : D.oks 59 ds = true) (e : D.mem x ds = c) (h : Q (.bl (!c)) M) : pIn true x (.lst ds) M Q := lf_ninL h1 h2 (e ▸ h)
theorem lf_ninP' (m : M p = some (.l ds)) (h1 : D.ok 60 x = true) (h2 : D.oks 59 ds = true) (e : D.mem x ds = c) (h : Q (.bl (!c)) M) : pIn true x (.ptr p) M Q := lf_ninP m h1 h2 (e ▸ h)
theorem lf_eq' (h1 : D.ok 60 x = true) (h2 : D.ok 60 y = true) (e : D.eq x y = c) (h : Q (.bl c) M) : pEq x y M Q := ⟨h1, h2, e ▸ h⟩
theorem lf_ne' (h1 : D.ok 60 x = true) (h2 : D.ok 60 y = true) (e : D.eq x y = c) (h : Q (.bl (!c)) M) : pNe x y M Q := ⟨h1, h2, e ▸ h⟩
theorem mem_sym : D.mem x ds = ds.any fun z => D.eq z x := rfl
end
theorem lf_mul2 {ds : List D} {M : Mm} {Q : D → Mm → Prop} (l : ds.length ≤ 100000) (h : Q (.lst (ds ++ ds)) M) : pMul (.lst ds) (.int 2) M Q :=
  lf_mulL (by show ds.length * 2 ≤ _; omega) (by decide) (by decide) (by rw [show (2 : Int).toNat = 2 from rfl]; simpa [List.replicate] using h)
section
variable {n : Nat} {ds es : List D}
theorem sms_app (a : D.sms n ds = true) (b : D.sms n es = true) : D.sms n (ds ++ es) = true := D.sms_of fun d hd => by
  rcases List.mem_append.mp hd with h | h
  · exact D.sms_mem a h
  · exact D.sms_mem b h
theorem sms_take (a : D.sms n ds = true) (k : Nat) : D.sms n (ds.take k) = true := D.sms_of fun d hd => D.sms_mem a (List.mem_of_mem_take hd)
theorem sms_drop (a : D.sms n ds = true) (k : Nat) : D.sms n (ds.drop k) = true := D.sms_of fun d hd => D.sms_mem a (List.mem_of_mem_drop hd)
end
def NameL (l : List Nat) : Prop := 1 ≤ l.length ∧ l.length ≤ 8 ∧ ∀ c ∈ l, 97 ≤ c ∧ c ≤ 122
theorem NameS.l {s : Str} (h : NameS s) : NameL s.cps.toList := h
theorem NameL.small {l : List Nat} (h : NameL l) : l.length ≤ 8 := h.2.1
theorem nameL_ok {l : List Nat} (h : NameL l) : PyData.strOk (tx l) = true := nameS_ok (s := tx l) h
def NamesL (n : Nat) (names : List (List Nat)) : Prop := names.length = n ∧ (∀ s ∈ names, NameL s) ∧ names.Nodup
theorem namesL_of {n : Nat} {names : List Str} (h : NamesOk n names) : NamesL n (names.map fun s => s.cps.toList) := by
  obtain ⟨h1, h2, h3⟩ := h
  refine ⟨by simpa using h1, fun l hl => ?_, ?_⟩
  · obtain ⟨s, hs, rfl⟩ := List.mem_map.mp hl
    exact (h2 s hs).l
  · rw [List.Nodup, List.pairwise_map]
    refine List.Pairwise.imp ?_ h3
    intro a b hab e
    exact hab (by rw [tx_of a, tx_of b, e])
inductive AllS : List D → Prop where
  | nil : AllS []
  | cons {s : Str} {ds : List D} : PyData.strOk s = true ∧ s.cps.toList.length ≤ 40 → AllS ds → AllS (.str s :: ds)
inductive AllI : List D → Prop where
  | nil : AllI []
  | cons {i : Int} {ds : List D} : AllI ds → AllI (.int i :: ds)
theorem AllS.get : ∀ {ds : List D} {d : D}, AllS ds → d ∈ ds → ∃ l : List Nat, d = .str (tx l) ∧ PyData.strOk (tx l) = true ∧ l.length ≤ 40
  | _, _, .nil, h => by cases h
  | _, _, .cons a b, h => by
    rcases List.mem_cons.mp h with e | e
    · subst e; exact ⟨_, rfl, a.1, a.2⟩
    · exact AllS.get b e
theorem AllI.get : ∀ {ds : List D} {d : D}, AllI ds → d ∈ ds → ∃ i : Int, d = .int i
  | _, _, .nil, h => by cases h
  | _, _, .cons b, h => by
    rcases List.mem_cons.mp h with e | e
    · subst e; exact ⟨_, rfl⟩
    · exact AllI.get b e
section
variable {a b : List Nat}
theorem stok_iff : PyData.strOk (tx a) = true ↔ ∀ c ∈ a, c < 1114112 := by
  unfold PyData.strOk
  rw [Array.all_eq_true']
  constructor
  · intro h c hc; exact of_decide_eq_true (h c (by simpa using hc))
  · intro h c hc; exact decide_eq_true (h c (by simpa using hc))
theorem stok_app (h : PyData.strOk (tx a) = true) (k : PyData.strOk (tx b) = true) : PyData.strOk (tx (a ++ b)) = true := by
  rw [stok_iff] at *
  intro c hc
  rcases List.mem_append.mp hc with z | z
  · exact h c z
  · exact k c z
theorem stok_take {n : Nat} (h : PyData.strOk (tx a) = true) : PyData.strOk (tx (a.take n)) = true := by
  rw [stok_iff] at *; exact fun c hc => h c (List.mem_of_mem_take hc)
theorem stok_drop {n : Nat} (h : PyData.strOk (tx a) = true) : PyData.strOk (tx (a.drop n)) = true := by
  rw [stok_iff] at *; exact fun c hc => h c (List.mem_of_mem_drop hc)
end
section
variable {X : Cx} {w : Wi} {Γ Γc : Ga} {M : Mm} {Q : D → Mm → Prop} {v : Str} {vp : Pos} {i : Nat} {iter elt c : Expr} {scope : Scope} {k : Nat} {nb : Nm}
/-- a comprehension over data as they come, the memory as it is -/
theorem lcN_id {xs : List D} (g : D → D) (hi : DI X w (.Name v vp) iter Γ M fun ds M1 => ds = xs ∧ M1 = M) (hz : xs.length ≤ sizeLine)
    (he : ∀ x ∈ xs, ∀ s0 H0 C cl fp, Sc (blkX X scope s0 H0 C cl fp) k nb → DE (blkX X scope s0 H0 C cl fp) w.dry elt ((v, i, some x) :: Γc) M fun r M4 => r = g x ∧ M4 = M) (q : Q (.lst (xs.map g)) M) : LcN X w v vp i iter elt [] scope k nb Γ Γc M Q :=
  lcN_map xs (fun x => x) g hz (by simpa using hi) he q
end
end L3
namespace L3
open PySem PySem.Spec PyProof.Rows L2
/-! ### 33. What a saying is -/
def digs : Str := "0123456789"
theorem digs_l : digs.cps.toList = (List.range 10).map (· + 48) := by decide +kernel
theorem mem_digs {c : Nat} : c ∈ digs.cps.toList ↔ 48 ≤ c ∧ c ≤ 57 := by
  rw [digs_l]; simp only [List.mem_map, List.mem_range]
  constructor
  · rintro ⟨a, h, rfl⟩; omega
  · intro h; exact ⟨c - 48, by omega, by omega⟩
def isNum : D → Int → Int → Bool
  | .int i, lo, hi => decide (lo ≤ i) && decide (i ≤ hi)
  | _, _, _ => false
def isName : D → Bool
  | .str s => decide (1 ≤ s.cps.toList.length) && decide (s.cps.toList.length ≤ 8) && s.cps.toList.all fun c => decide (c ∈ abc.cps.toList)
  | _ => false
def isSay : D → Bool
  | .tup (.str w :: b :: rest) => isNum b 0 23 && (if w = "nobody" then rest.isEmpty else match rest with
    | [c] => if w = "is" then isName c else decide ("same" = w ∨ "apart" = w) && isNum c 0 23 && !D.eq c b
    | _ => false)
  | _ => false
theorem isNum_int {b : D} {lo hi : Int} (h : isNum b lo hi = true) : ∃ i, b = .int i ∧ lo ≤ i ∧ i ≤ hi := by
  cases b <;> first | cases h | skip
  rename_i i
  simp only [isNum, Bool.and_eq_true, decide_eq_true_eq] at h
  exact ⟨i, rfl, h.1, h.2⟩
theorem eq_l0 : D.eq (.lst []) (.lst []) = true := by rw [eq_ll]; rfl
theorem eq_l1 {d : D} {ds : List D} : D.eq (.lst (d :: ds)) (.lst []) = false := by
  rw [eq_ll]
  show PyData.eqvAll (d.py :: _) [] = false
  rw [PyData.eqvAll]
theorem ne_is : ¬ (("is" : Str) = "nobody") := by decide +kernel
theorem ne_sn : ¬ (("same" : Str) = "nobody") := by decide +kernel
theorem ne_an : ¬ (("apart" : Str) = "nobody") := by decide +kernel
theorem isName_of {l : List Nat} (h : NameL l) : isName (.str (tx l)) = true := by
  simp only [isName, tx_l, Bool.and_eq_true, decide_eq_true_eq, List.all_eq_true]
  exact ⟨⟨h.1, h.2.1⟩, fun c hc => mem_abc.mpr (h.2.2 c hc)⟩
end L3
namespace L3
open PySem PySem.Spec PyProof.Rows L2
/-! ### 34. Classes: what the module has of them -/
/-- the class c, its instances' fields (no class above it has such a name) -/
structure ClsD (K : PySem.W.Frag) (mg : Str → Option Value) (c : Str) (fl : List Str) : Prop where
  gm : mg c = some (.ref (ca mg c))
  cls : Cls K (ca mg c)
  nf : ∀ f ∈ fl, NoAttr K (ca mg c) f
/-- the method m of c promises S -/
structure MthD (P : Program) (w : World) (K : PySem.W.Frag) (mg : Str → Option Value) (base : Heap) (k : Nat) (c m : Str) (ps : List Str) (KW : List KwF) (S : SpD) : Prop where
  cls : Cls K (ca mg c)
  ex : ∃ f fd, Meth K (ca mg c) m f ∧ FnOk P w K mg base (L2.CX P w) k f fd ps (spD K mg S) ∧ Binds K fd ps [] ∧ ∀ f ∈ KW, KB K mg fd ps f
/-- C(..): a new instance, then __init__, that promises S -/
structure IniD (P : Program) (w : World) (K : PySem.W.Frag) (mg : Str → Option Value) (base : Heap) (k : Nat) (c : Str) (ps : List Str) (KW : List KwF) (S : SpD) : Prop where
  gm : mg c = some (.ref (ca mg c))
  ex : ∃ f fd, Mk K (ca mg c) f ∧ FnOk P w K mg base (L2.CX P w) k f fd ps (spD K mg S) ∧ Binds K fd ps [] ∧ ∀ f ∈ KW, KB K mg fd ps f
/-- the property m of c -/
structure PrpD (P : Program) (w : World) (K : PySem.W.Frag) (mg : Str → Option Value) (base : Heap) (k : Nat) (c m : Str) (S : SpD) : Prop where
  cls : Cls K (ca mg c)
  ex : ∃ p g fd, PropOf K (ca mg c) m p g ∧ FnOk P w K mg base (L2.CX P w) k g fd ["self"] (spD K mg S) ∧ Binds K fd ["self"] []
/-- an instance of c without a field m -/
def D.isO (c m : Str) : D → Mm → Prop
  | .obj c' fs, _ => c' = c ∧ fs.lookup m = none
  | .ptr p, M => ∃ fs, M p = some (.o c fs) ∧ fs.lookup m = none
  | _, _ => False
section
variable {X : Cx} {w : Wi} {Γ Γ' : Ga} {M : Mm} {Q : D → Mm → Prop} {c f m x : Str} {d : D} {o e : Expr} {es : List Expr} {pos apos p pos' : Pos} {k k0 : Nat} {n : Nm} {ps : List Str} {KW : List KwF} {S : SpD} {P : Po} {rest : List Stmt} {fl : List Str}
theorem isO_ins {F Hb H : Hp} {σ : St} {v : V} (A : At X w F Hb H σ Γ M) (r : Rep X.K X.mg Hb v d) (h : d.isO c m M) : ∃ a dx ws, v = .ref a ∧ H a = some (.ins (ca X.mg c) dx ws) ∧ ws.lookup m = none := by
  cases r with
  | obj h1 h2 =>
    obtain ⟨rfl, h3⟩ := h
    exact ⟨_, _, _, rfl, A.hs.ex _ _ h1, h2.lookup_none h3⟩
  | ptr =>
    obtain ⟨fs, h1, h3⟩ := h
    obtain ⟨_, dx, ws, h4, h5⟩ := A.hs.ce _ _ h1
    exact ⟨_, _, _, rfl, h4, h5.lookup_none h3⟩
  | _ => exact h.elim
/-! a field read -/
def pFld (K : PySem.W.Frag) (mg : Str → Option Value) (f : Str) : D → Mm → (D → Mm → Prop) → Prop
  | .obj c fs, M, Q => ∃ fl d, ClsD K mg c fl ∧ f ∈ fl ∧ fs.lookup f = some d ∧ Q d M
  | .ptr p, M, Q => ∃ c fs fl d, M p = some (.o c fs) ∧ ClsD K mg c fl ∧ f ∈ fl ∧ fs.lookup f = some d ∧ Q d M
  | _, _, _ => False
theorem de_fld (hb : attributeBase e f X.env (eval e X.env) = eval e X.env) (h : DE X w e Γ M fun x M1 => pFld X.K X.mg f x M1 Q) : DE X w (.Attribute e f pos) Γ M Q := .mk fun F σ H Hb A => by
  refine semE_of (pe_fld semE_ok hb) (semE_mono (h.run F σ H Hb A) fun v H1 ⟨Hb1, d1, M1, e1, A1, r1, q⟩ => ?_)
  cases r1 with
  | obj h1 h2 =>
    obtain ⟨fl, d, hc, hf, hl, q⟩ := q
    obtain ⟨u, g1, g2⟩ := h2.lookup hl
    exact ⟨_, _, _, _, u, rfl, A1.hs.ex _ _ h1, hc.cls, hc.nf f hf, g1, A1.val e1 g2 q⟩
  | ptr =>
    obtain ⟨c, fs, fl, d, hm, hc, hf, hl, q⟩ := q
    obtain ⟨_, dx, ws, h4, h5⟩ := A1.hs.ce _ _ hm
    obtain ⟨u, g1, g2⟩ := h5.lookup hl
    exact ⟨_, _, _, _, u, rfl, h4, hc.cls, hc.nf f hf, g1, A1.val e1 g2 q⟩
  | _ => exact q.elim
/-! a field stored -/
def putD (f : Str) (v : D) : List (Str × D) → List (Str × D)
  | [] => [(f, v)]
  | (g, x) :: r => if g = f then (g, v) :: r else (g, x) :: putD f v r
theorem RepF.put {K : PySem.W.Frag} {mg : Str → Option Value} {Hb : Hp} {v : V} {d : D} (r : Rep K mg Hb v d) : ∀ {ws : List (Str × V)} {fs : List (Str × D)}, RepF K mg Hb ws fs → RepF K mg Hb (putF f v ws) (putD f d fs)
  | _, _, .nil => .cons r .nil
  | (g, _) :: ws, (_, _) :: fs, .cons a b => by
    unfold putF putD
    by_cases z : g = f
    · rw [if_pos z, if_pos z]; exact .cons r b
    · rw [if_neg z, if_neg z]; exact .cons a (RepF.put r b)
def pFldS (K : PySem.W.Frag) (mg : Str → Option Value) (f : Str) : D → D → Mm → (Mm → Prop) → Prop
  | .ptr p, d, M, R => ∃ c fs fl, M p = some (.o c fs) ∧ ClsD K mg c fl ∧ f ∈ fl ∧ fs.length < 900 ∧ R (M.put p (.o c (putD f d fs)))
  | _, _, _, _ => False
theorem ds_fld {value : Expr} (hs : swapsWith value (some (.Attribute o f pos')) pos.line X.env = pure false) (h : DE X w value Γ M fun d M1 => DE X w o Γ M1 fun x M2 => pFldS X.K X.mg f x d M2 fun M3 => DS X w rest Γ M3 P) : DS X w (.Assign [.Attribute o f pos'] value pos :: rest) Γ M P := .mk fun F σ H Hb A => by
  refine ds_seq (ps_fld semE_ok semE_ok hs) (semE_mono (h.run F σ H Hb A) fun v H1 ⟨Hb1, d1, M1, e1, A1, r1, q1⟩ => semE_mono (q1.run F σ H1 Hb1 A1) fun v2 H2 ⟨Hb2, d2, M2, e2, A2, r2, q2⟩ => ?_)
  cases r2 with
  | ptr =>
    obtain ⟨c, fs, fl, hm, hc, hf, hz, q3⟩ := q2
    obtain ⟨_, dx, ws, h4, h5⟩ := A2.hs.ce _ _ hm
    refine ⟨_, _, dx, ws, rfl, h4, hc.cls, hc.nf f hf, by rw [h5.length]; omega, ?_⟩
    exact semB_back (e1.trans e2) (q3.run F σ _ Hb2 (A2.write hm (c := .o c (putD f d1 fs)) ⟨dx, _, upd_same, h5.put (r1.mono e2)⟩))
  | _ => exact q2.elim
/-! methods -/
theorem run_mth {F Hb H H0 : Hp} {σ : St} {pins : List (Addr × Obj)} {s : Shared} {g : Addr} {fd : FuncData} {us : List Value} {vs : List V} {ds : List D} (Sx : Sc X k0 n) (hk : k ≤ k0) (f : FnOk X.prog X.w X.K X.mg X.base (L2.CX X.prog X.w) k g fd ps (spD X.K X.mg S)) (b : Binds X.K fd ps [])
    (A : At X w F Hb H σ Γ M) (e0 : Ex H0 Hb) (I : Inv X pins σ H s) (rv : Vals vs us) (r : Reps X.K X.mg Hb vs ds) (q : S ds M Q fun c fs M' => w.ed Γ c fs M') : wpAny (model X.prog X.w) X.A (call (.ref g) us) (EP X pins σ (PostE X w F H0 σ Γ Q)) X.xe s :=
  run_fnS (E := fun σ => WE (LiftX X w) σ) f (Sx.room.mono hk) b (passAt A.wok σ) I rv (run_spD A e0 r q)
theorem de_meth {pl : Sem Bool} (Sx : Sc X k0 n) (hst : starEach (e :: es) X.env = (false, eval e X.env) :: starEach es X.env) (hpl : (backTo pos (starEach es X.env)).any (·.1) = false)
    (ht : eval (.Call (.Attribute o m apos) (e :: es) [] pos) X.env = (do
      let ov ← eval o X.env
      standAt apos.atName
      let (f, first) ← holding [ov] (getMethod ov m pl)
      callWith pos f first (backTo pos (starEach (e :: es) X.env)) (backToKw pos (keywordEach [] X.env))))
    (h : DE X w o Γ M fun x M1 => ∃ c k ps KW S, MthD X.prog X.w X.K X.mg X.base k c m ps KW S ∧ k ≤ k0 ∧ x.isO c m M1 ∧ DA X w (e :: es) Γ M1 fun ds M2 => S (x :: ds) M2 Q fun c fs M' => w.ed Γ c fs M') : DE X w (.Call (.Attribute o m apos) (e :: es) [] pos) Γ M Q := .mk fun F σ H Hb A => by
  intro pins s I
  refine PySem.W.methodCall_KW (pl := pl) (thn (h.run F σ H Hb A pins s I) fun u s1 ⟨v, H1, I1, r1, Hb1, d1, M1, e1, A1, rr, c, k, ps, KW, S, C, hk, ho, q⟩ => ?_) ht
  obtain ⟨a, dx, ws, rfl, ha, hl⟩ := isO_ins A1 rr ho
  obtain rfl : u = Value.ref a := r1
  obtain ⟨g, fd, hm, f, b, _⟩ := C.ex
  refine getmeth_ok I1 ha C.cls hm hl (PySem.W.callWith_K (first := [.ref a]) (h₀ := X.base) I.ok.mod.kin hm.kp (thn (q.run F σ H1 Hb1 A1 pos pins s1 I1) fun us s2 ⟨vs, H2, I2, r2, Hb2, ds, M2, e2, A2, rr2, q2⟩ => ⟨I2.kIn, ?_⟩) hst hpl)
  exact run_mth (us := .ref a :: us) Sx hk f b A2 (e1.trans e2) I2 (.cons (show RelV (.ref a) (.ref a) from rfl) r2) (.cons (rr.mono e2) rr2) q2
theorem de_meth0 {pl : Sem Bool} (Sx : Sc X k0 n)
    (ht : eval (.Call (.Attribute o m apos) [] [] pos) X.env = (do
      let ov ← eval o X.env
      standAt apos.atName
      let (f, first) ← holding [ov] (getMethod ov m pl)
      callWith pos f first (backTo pos (starEach [] X.env)) (backToKw pos (keywordEach [] X.env))))
    (h : DE X w o Γ M fun x M1 => ∃ c k ps KW S, MthD X.prog X.w X.K X.mg X.base k c m ps KW S ∧ k ≤ k0 ∧ x.isO c m M1 ∧ S [x] M1 Q fun c fs M' => w.ed Γ c fs M') : DE X w (.Call (.Attribute o m apos) [] [] pos) Γ M Q := .mk fun F σ H Hb A => by
  intro pins s I
  refine PySem.W.methodCall_KW (pl := pl) (thn (h.run F σ H Hb A pins s I) fun u s1 ⟨v, H1, I1, r1, Hb1, d1, M1, e1, A1, rr, c, k, ps, KW, S, C, hk, ho, q⟩ => ?_) ht
  obtain ⟨a, dx, ws, rfl, ha, hl⟩ := isO_ins A1 rr ho
  obtain rfl : u = Value.ref a := r1
  obtain ⟨g, fd, hm, f, b, _⟩ := C.ex
  exact getmeth_ok I1 ha C.cls hm hl (PySem.W.callWith_K0 (first := [.ref a]) I1.kIn hm.kp (run_mth (us := [.ref a]) Sx hk f b A1 e1 I1 (.cons (show RelV (.ref a) (.ref a) from rfl) .nil) (.cons rr .nil) q))
/-! a property -/
theorem de_prop (Sx : Sc X k0 n) (hb : attributeBase e m X.env (eval e X.env) = eval e X.env)
    (h : DE X w e Γ M fun x M1 => ∃ c k S, PrpD X.prog X.w X.K X.mg X.base k c m S ∧ k + 1 ≤ k0 ∧ x.isO c m M1 ∧ S [x] M1 Q fun _ _ _ => False) : DE X w (.Attribute e m pos) Γ M Q := .mk fun F σ H Hb A => by
  intro pins s I
  refine attr_of hb (thn (h.run F σ H Hb A pins s I) fun u s1 ⟨v, H1, I1, r1, Hb1, d1, M1, e1, A1, rr, c, k, S, C, hk, ho, q⟩ => ?_)
  obtain ⟨a, dx, ws, rfl, ha, hl⟩ := isO_ins A1 rr ho
  obtain rfl : u = Value.ref a := r1
  obtain ⟨pp, g, fd, hm, f, b⟩ := C.ex
  refine getprop_ok (E := fun _ _ _ => False) (dvs := []) (ds := []) I1 ha C.cls hm f (Sx.room.mono hk) b .nil (fun _ _ _ _ _ _ _ z => by obtain ⟨_, _, _, _, _, _, _, _, _, _, _, _, z⟩ := z; exact z.elim) ?_
  exact ⟨F, Hb1, [d1], M1, Q, fun _ _ _ => False, A1.hs, .cons rr .nil, q, fun v H' Hb' d M' hq e' h' r' => ⟨Hb', d, M', e1.trans e', A1.hsTo e' h', r', hq⟩, fun _ _ _ _ _ _ _ z => z.elim⟩
/-! a new instance -/
theorem run_mk {F Hb H H0 : Hp} {σ : St} {pins : List (Addr × Obj)} {s : Shared} {g : Addr} {fd : FuncData} {us : List Value} {ds : List D} {kw : List (Str × Value)} (Sx : Sc X k0 n) (hk : k + 1 ≤ k0) (hmk : Mk X.K (ca X.mg c) g) (f : FnOk X.prog X.w X.K X.mg X.base (L2.CX X.prog X.w) k g fd ps (spD X.K X.mg S))
    (A : At X w F Hb H σ Γ M) (e0 : Ex H0 Hb) (I : Inv X pins σ H s) (zs : List V) (zu : List Value) (rz : Vals zs zu) (r : Reps X.K X.mg Hb zs ds)
    (hb : ∀ (s : Shared) (a : Value), X.K.In s.heap → (a :: zu).length = ps.length → BindsTo s fd ⟨a :: us, kw⟩ (ps.zip (a :: zu)))
    (q : ∀ p, M p = none → S (.ptr p :: ds) (M.put p (.o c [])) (fun d M' => d = .non ∧ Q (.ptr p) M') fun c fs M' => w.ed Γ c fs M') :
    wpAny (model X.prog X.w) X.A (call (.ref (ca X.mg c)) us kw) (EP X pins σ (PostE X w F H0 σ Γ Q)) X.xe s := by
  have n1 : H s.heap.objs.size = none := I.hok.fresh (Nat.le_refl _)
  have n2 : H (s.heap.objs.size + 1) = none := I.hok.fresh (Nat.le_succ _)
  have J := Inv.made (C := ca X.mg c) I
  have A1 : At X w F Hb (upd H s.heap.objs.size (.own (s.heap.objs.size + 1))) σ Γ M := A.junk n1 _
  have n3 : upd H s.heap.objs.size (.own (s.heap.objs.size + 1)) (s.heap.objs.size + 1) = none := by rw [upd_ne (Nat.succ_ne_self _)]; exact n2
  have A2 := A1.cell n3 (o := .ins (ca X.mg c) s.heap.objs.size []) (c := .o c []) ⟨_, _, upd_same, .nil⟩
  have rr : Vals (V.ref (s.heap.objs.size + 1) :: zs) (Value.ref (s.heap.objs.size + 1) :: zu) := .cons rfl rz
  have sp := run_spD A2 (Ex.refl _) (.cons .ptr r) (q _ (A1.hs.free n3))
  have hl : (Value.ref (s.heap.objs.size + 1) :: zu).length = ps.length := by rw [← rr.length]; exact f.len _ _ _ _ sp
  refine wpAny_call (make_map (f := g) I.kIn hmk.makes hmk.init (beq_iff_eq.mp hmk.fn) ?_)
  refine codeAny_mono (f.run _ X.stack _ _ ⟨Value.ref (s.heap.objs.size + 1) :: us, kw⟩ _ _ _ (WE (LiftX X w) σ) ((Sx.room.mono hk).make _ us kw) (J.env0.make _ us kw) (hb _ _ J.kIn hl) rr sp) fun r s' hr => ?_
  cases r with
  | error e => exact passAt A.wok σ pins _ _ e s' J hr
  | ok fl =>
    cases fl with
    | ret u =>
      obtain ⟨v, H', I3, rv, Hb', d, M', e', A', r', hd, q3⟩ := J.after hr
      subst hd
      cases r'
      exact ⟨rv, .ref (s.heap.objs.size + 1), H', I3, rfl, Hb', .ptr _, M', e0.trans e', A', .ptr, q3⟩
    | next => exact False.elim hr
    | brk => exact False.elim hr
    | cont => exact False.elim hr
theorem de_make (Sx : Sc X k0 n) (C : IniD X.prog X.w X.K X.mg X.base k c ps KW S) (hk : k + 1 ≤ k0) (hx : c ∈ n.glb) (he : starEach (e :: es) X.env = (false, eval e X.env) :: starEach es X.env) (hpl : (backTo pos (starEach es X.env)).any (·.1) = false)
    (h : DA X w (e :: es) Γ M fun ds M1 => ∀ p, M1 p = none → S (.ptr p :: ds) (M1.put p (.o c [])) (fun d M' => d = .non ∧ Q (.ptr p) M') fun c fs M' => w.ed Γ c fs M') : DE X w (.Call (.Name c p) (e :: es) [] pos) Γ M Q := .mk fun F σ H Hb A => by
  obtain ⟨g, fd, hm, f, b, _⟩ := C.ex
  intro pins s I
  refine wpAny_Call_Name_kw (ld_glob I (Sx.gl c hx).1 C.gm ?_ (okN_d (Sx.gl c hx).2))
  refine PySem.W.callWith_K (h₀ := X.base) I.ok.mod.kin hm.kp (thn (h.run F σ H Hb A pos pins s I) fun us s1 ⟨vs, H1, I1, r, Hb1, ds, M1, e1, A1, r1, q1⟩ => ⟨I1.kIn, ?_⟩) he hpl
  show wpAny _ _ (call (.ref (ca X.mg c)) us) _ _ _
  refine run_mk Sx hk hm f A1 e1 I1 vs us r r1 (fun s a hK hl => ?_) q1
  have := b s (a :: us) hK (by simpa using hl)
  simpa using this
end
section
variable {X : Cx} {w : Wi} {Γ Γ' : Ga} {M : Mm} {Q : D → Mm → Prop} {c f m x : Str} {d : D} {o e : Expr} {es : List Expr} {pos apos p pos' : Pos} {k k0 : Nat} {n : Nm} {ps : List Str} {KW : List KwF} {S : SpD} {P : Po} {rest : List Stmt} {fl : List Str}
/-- e.f, a field or a property -/
theorem de_attr (Sx : Sc X k0 n) (hb : attributeBase e m X.env (eval e X.env) = eval e X.env)
    (h : DE X w e Γ M fun x M1 => pFld X.K X.mg m x M1 Q ∨ ∃ c k S, PrpD X.prog X.w X.K X.mg X.base k c m S ∧ k + 1 ≤ k0 ∧ x.isO c m M1 ∧ S [x] M1 Q fun _ _ _ => False) : DE X w (.Attribute e m pos) Γ M Q := .mk fun F σ H Hb A => by
  intro pins s I
  refine attr_of hb (thn (h.run F σ H Hb A pins s I) fun u s1 ⟨v, H1, I1, r1, Hb1, d1, M1, e1, A1, rr, q⟩ => ?_)
  rcases q with q | ⟨c, k, S, C, hk, ho, q⟩
  · cases rr with
    | obj h1 h2 =>
      obtain ⟨fl, d, hc, hf, hl, q⟩ := q
      obtain ⟨z, g1, g2⟩ := h2.lookup hl
      cases r1
      exact getattr_ok I1 (A1.hs.ex _ _ h1) hc.cls (hc.nf m hf) g1 fun u' s2 I2 ru => ⟨z, H1, I2, ru, A1.val e1 g2 q⟩
    | ptr =>
      obtain ⟨c, fs, fl, d, hm, hc, hf, hl, q⟩ := q
      obtain ⟨_, dx, ws, h4, h5⟩ := A1.hs.ce _ _ hm
      obtain ⟨z, g1, g2⟩ := h5.lookup hl
      cases r1
      exact getattr_ok I1 h4 hc.cls (hc.nf m hf) g1 fun u' s2 I2 ru => ⟨z, H1, I2, ru, A1.val e1 g2 q⟩
    | _ => exact q.elim
  · obtain ⟨a, dx, ws, rfl, ha, hl⟩ := isO_ins A1 rr ho
    obtain rfl : u = Value.ref a := r1
    obtain ⟨pp, g, fd, hm, f, b⟩ := C.ex
    refine getprop_ok (E := fun _ _ _ => False) (dvs := []) (ds := []) I1 ha C.cls hm f (Sx.room.mono hk) b .nil (fun _ _ _ _ _ _ _ z => by obtain ⟨_, _, _, _, _, _, _, _, _, _, _, _, z⟩ := z; exact z.elim) ?_
    exact ⟨F, Hb1, [d1], M1, Q, fun _ _ _ => False, A1.hs, .cons rr .nil, q, fun v H' Hb' d M' hq e' h' r' => ⟨Hb', d, M', e1.trans e', A1.hsTo e' h', r', hq⟩, fun _ _ _ _ _ _ _ z => z.elim⟩
end
/-! ### 35. Leaves of classes -/
section
variable {P : Program} {W : World} {K : PySem.W.Frag} {mg : Str → Option Value} {base : Heap} {M : Mm} {Q : D → Mm → Prop} {c f g m : Str} {d v : D} {fs : List (Str × D)} {fl : List Str} {p : Addr} {k k0 : Nat} {ps : List Str} {KW : List KwF} {S : SpD} {x : D}
theorem lk_here : ((f, d) :: fs).lookup f = some d := by rw [List.lookup_cons]; simp
theorem lk_there (h : (f == g) = false) (t : fs.lookup f = some d) : ((g, v) :: fs).lookup f = some d := by rw [List.lookup_cons, h]; exact t
theorem lkn_nil : ([] : List (Str × D)).lookup f = none := rfl
theorem lkn_there (h : (f == g) = false) (t : fs.lookup f = none) : ((g, v) :: fs).lookup f = none := by rw [List.lookup_cons, h]; exact t
theorem lf_atO {B : Prop} (Cc : ClsD K mg c fl) (hf : f ∈ fl) (hl : fs.lookup f = some d) (q : Q d M) : pFld K mg f (.obj c fs) M Q ∨ B := .inl ⟨fl, d, Cc, hf, hl, q⟩
theorem lf_atC {B : Prop} (hm : M p = some (.o c fs)) (Cc : ClsD K mg c fl) (hf : f ∈ fl) (hl : fs.lookup f = some d) (q : Q d M) : pFld K mg f (.ptr p) M Q ∨ B := .inl ⟨c, fs, fl, d, hm, Cc, hf, hl, q⟩
theorem lf_atProp {A : Prop} {k0 : Nat} {x : D} (ho : x.isO c m M) (C : PrpD P W K mg base k c m S) (hk : k + 1 ≤ k0) (q : S [x] M Q fun _ _ _ => False) : A ∨ ∃ c k S, PrpD P W K mg base k c m S ∧ k + 1 ≤ k0 ∧ x.isO c m M ∧ S [x] M Q fun _ _ _ => False := .inr ⟨c, k, S, C, hk, ho, q⟩
theorem isO_o (h : fs.lookup m = none) : D.isO c m (.obj c fs) M := ⟨rfl, h⟩
theorem isO_c (hm : M p = some (.o c fs)) (h : fs.lookup m = none) : D.isO c m (.ptr p) M := ⟨fs, hm, h⟩
theorem lf_mth {R : SpD → Prop} (ho : x.isO c m M) (C : MthD P W K mg base k c m ps KW S) (hk : k ≤ k0) (q : R S) : ∃ c k ps KW S, MthD P W K mg base k c m ps KW S ∧ k ≤ k0 ∧ x.isO c m M ∧ R S := ⟨c, k, ps, KW, S, C, hk, ho, q⟩
theorem lf_fldS {R : Mm → Prop} (hm : M p = some (.o c fs)) (Cc : ClsD K mg c fl) (hf : f ∈ fl) (hz : fs.length < 900) (q : R (M.put p (.o c (putD f d fs)))) : pFldS K mg f (.ptr p) d M R := ⟨c, fs, fl, hm, Cc, hf, hz, q⟩
end
/-! ### 36. What the head tells of classes -/
def clsB : Stmt → List Stmt
  | .ClassDef (body := b) .. => b
  | _ => []
/-- a method (or an __init__) as the class holds it -/
structure TopM (K : PySem.W.Frag) (mg : Str → Option Value) (c m qual : Str) (st : Stmt) : Prop where
  cls : Cls K (ca mg c)
  ex : ∃ f fd, Meth K (ca mg c) m f ∧ Fun K m qual st f fd
structure TopP (K : PySem.W.Frag) (mg : Str → Option Value) (c m qual : Str) (st : Stmt) : Prop where
  cls : Cls K (ca mg c)
  ex : ∃ p g fd, PropOf K (ca mg c) m p g ∧ Fun K m qual st g fd
structure TopI (K : PySem.W.Frag) (mg : Str → Option Value) (c qual : Str) (st : Stmt) : Prop where
  gm : mg c = some (.ref (ca mg c))
  ex : ∃ f fd, Mk K (ca mg c) f ∧ Fun K "__init__" qual st f fd
section
variable {K : PySem.W.Frag} {h : Heap} {mg : Str → Option Value} {c m qual : Str} {st : Stmt} {C f p g : Addr} {oc : Value} {od an : Option Addr} {osl : Array (Option Value)} {kV doc pm cdv ct : Value} {rest : List Value} {fl : List Str}
theorem ca_of (X : K.In h) (G : h.Ns mainGlobals mg) (a : PySem.W.nsIn K mainGlobals c = some (some (.ref C))) : mg c = some (.ref (ca mg c)) ∧ ca mg c = C := by
  have g := PySem.W.mg_of X G a
  have e : ca mg c = C := by unfold ca; rw [g]
  exact ⟨by rw [e]; exact g, e⟩
theorem clsD (X : K.In h) (G : h.Ns mainGlobals mg) (a : PySem.W.nsIn K mainGlobals c = some (some (.ref C))) (pg : PySem.W.plainGet K C Str.empty = true) (hd : PySem.W.hasDictIn K C = true) (po : PySem.W.plainOver K C = true)
    (sa : PySem.W.findIn K (.ref C) "__setattr__" = some (some (.builtin "object.__setattr__"))) (nf : ∀ f ∈ fl, PySem.W.findIn K (.ref C) f = some none) : ClsD K mg c fl := by
  obtain ⟨g, e⟩ := ca_of X G a
  exact ⟨g, by rw [e]; exact ⟨pg, hd, po, sa⟩, fun f hf => by rw [e]; exact nf f hf⟩
theorem nf_nil : ∀ f ∈ ([] : List Str), PySem.W.findIn K (.ref C) f = some none := fun _ h => nomatch h
theorem nf_cons {x : Str} (h : PySem.W.findIn K (.ref C) x = some none) (t : ∀ f ∈ fl, PySem.W.findIn K (.ref C) f = some none) : ∀ f ∈ x :: fl, PySem.W.findIn K (.ref C) f = some none := fun y hy => by
  rcases List.mem_cons.mp hy with q | q
  · rw [q]; exact h
  · exact t y q
theorem topM (X : K.In h) (G : h.Ns mainGlobals mg) (a : PySem.W.nsIn K mainGlobals c = some (some (.ref C))) (Cc : ClsD K mg c fl) (hf : PySem.W.findIn K (.ref C) m = some (some (.ref f))) (fn : PySem.W.isFn K (.ref f) = true)
    (l : K.lookup f = some ⟨oc, od, .func (PySem.W.fnOf m qual (defArgs st) (defBody st) (defScope st) .none kV doc pm an cdv ct), osl⟩) (cd : PySem.W.codeIn K cdv qual = true) (k : PySem.W.keepIn K (.ref f) = true) : TopM K mg c m qual st := by
  obtain ⟨g, e⟩ := ca_of X G a
  exact ⟨Cc.cls, _, _, by rw [e]; exact ⟨hf, fn, k⟩, fun_mk l cd k⟩
theorem topP (X : K.In h) (G : h.Ns mainGlobals mg) (a : PySem.W.nsIn K mainGlobals c = some (some (.ref C))) (Cc : ClsD K mg c fl) (hf : PySem.W.findIn K (.ref C) m = some (some (.ref p))) (gt : PySem.W.specialIn K (.ref p) "__get__" = some (some (.builtin "property.__get__")))
    (tk : PySem.W.takesIn K (.ref p) = some true) (rc : PySem.W.recIn K p "property" = some (.ref g :: rest))
    (l : K.lookup g = some ⟨oc, od, .func (PySem.W.fnOf m qual (defArgs st) (defBody st) (defScope st) .none kV doc pm an cdv ct), osl⟩) (cd : PySem.W.codeIn K cdv qual = true) (k : PySem.W.keepIn K (.ref g) = true) : TopP K mg c m qual st := by
  obtain ⟨_, e⟩ := ca_of X G a
  exact ⟨Cc.cls, _, _, _, by rw [e]; exact ⟨hf, gt, tk, _, rc⟩, fun_mk l cd k⟩
end
section
variable {K : PySem.W.Frag} {h : Heap} {mg : Str → Option Value} {c m qual : Str} {st : Stmt} {C f p g : Addr} {oc : Value} {od an : Option Addr} {osl : Array (Option Value)} {kV doc pm cdv ct : Value} {rest : List Value} {fl : List Str}
theorem topI (X : K.In h) (G : h.Ns mainGlobals mg) (a : PySem.W.nsIn K mainGlobals c = some (some (.ref C))) (mk : PySem.W.makesIn K C = true) (hf : PySem.W.findIn K (.ref C) "__init__" = some (some (.ref f))) (fn : PySem.W.isFn K (.ref f) = true) (kC : PySem.W.keepIn K (.ref C) = true)
    (l : K.lookup f = some ⟨oc, od, .func (PySem.W.fnOf "__init__" qual (defArgs st) (defBody st) (defScope st) .none kV doc pm an cdv ct), osl⟩) (cd : PySem.W.codeIn K cdv qual = true) (k : PySem.W.keepIn K (.ref f) = true) : TopI K mg c qual st := by
  obtain ⟨g, e⟩ := ca_of X G a
  exact ⟨g, _, _, by rw [e]; exact ⟨mk, hf, fn, kC⟩, fun_mk l cd k⟩
end
section
variable {X : Cx} {w : Wi} {Γ : Ga} {M : Mm} {Q : D → Mm → Prop} {e : Expr} {x : Str} {p : Pos}
theorem hE_attr (h : DE X w (.Attribute e x p) Γ M Q) : DE X w (.Attribute e x p) Γ M Q := h
/-- a new instance that is data from there on -/
theorem lf_made {c : Str} {fs : List (Str × D)} {d : D} {pp : Addr} (hd : d = .non) (hm : M pp = some (.o c fs)) (q : Q (.obj c fs) (M.del pp)) : d = .non ∧ ∃ q' cl, D.ptr pp = .ptr q' ∧ M q' = some cl ∧ Q cl.data (M.del q') := ⟨hd, pp, _, rfl, hm, q⟩
end
end L3
namespace L3
open PySem PySem.Spec PySem.Calls PyProof.Rows L2
/-! ### 37. Dicts -/
def kD : Key → D
  | .inl i => .int i
  | .inr s => .str s
def valD (kvs : List (Key × D)) (k : Key) : Option D := (kvs.find? fun kv => decide (kv.1 = k)).map (·.2)
def putKD (kvs : List (Key × D)) (k : Key) (v : D) : List (Key × D) :=
  if (kvs.any fun kv => decide (kv.1 = k)) = true then kvs.map (fun kv => if kv.1 = k then (kv.1, v) else kv) else kvs ++ [(k, v)]
section
variable {K : PySem.W.Frag} {mg : Str → Option Value} {H : Hp}
theorem RepK.length : ∀ {ws : List (Key × V)} {kvs : List (Key × D)}, RepK K mg H ws kvs → ws.length = kvs.length
  | _, _, .nil => rfl
  | _, _, .cons _ t => congrArg (· + 1) (RepK.length t)
theorem RepK.val {k : Key} : ∀ {ws : List (Key × V)} {kvs : List (Key × D)}, RepK K mg H ws kvs → (∀ d, valD kvs k = some d → ∃ v, valV ws k = some v ∧ Rep K mg H v d) ∧ (valD kvs k = none → valV ws k = none)
  | _, _, .nil => ⟨fun _ h => (by cases h), fun _ => rfl⟩
  | (f, v) :: ws, (_, d) :: kvs, .cons r t => by
    by_cases e : f = k
    · subst e
      refine ⟨fun d' h => ?_, fun h => ?_⟩
      · simp [valD] at h; subst h; exact ⟨v, by simp [valV], r⟩
      · simp [valD] at h
    · have ih := RepK.val (k := k) t
      refine ⟨fun d' h => ?_, fun h => ?_⟩
      · obtain ⟨z, h1, h2⟩ := ih.1 d' (by simpa [valD, List.find?_cons, e] using h)
        exact ⟨z, by rw [valV_neg (by exact e)]; exact h1, h2⟩
      · rw [valV_neg (by exact e)]; exact ih.2 (by simpa [valD, List.find?_cons, e] using h)
theorem RepK.any {k : Key} : ∀ {ws : List (Key × V)} {kvs : List (Key × D)}, RepK K mg H ws kvs → (ws.any fun kv => decide (kv.1 = k)) = (kvs.any fun kv => decide (kv.1 = k))
  | _, _, .nil => rfl
  | _, _, .cons _ t => by simp only [List.any_cons, RepK.any t]
theorem RepK.map {k : Key} {v : V} {d : D} (r : Rep K mg H v d) : ∀ {ws : List (Key × V)} {kvs : List (Key × D)}, RepK K mg H ws kvs → RepK K mg H (ws.map fun kv => if kv.1 = k then (kv.1, v) else kv) (kvs.map fun kv => if kv.1 = k then (kv.1, d) else kv)
  | _, _, .nil => .nil
  | (f, u) :: ws, (_, e) :: kvs, .cons a t => by
    simp only [List.map_cons]
    by_cases z : f = k
    · rw [if_pos z, if_pos z]; exact .cons r (RepK.map r t)
    · rw [if_neg z, if_neg z]; exact .cons a (RepK.map r t)
theorem RepK.app {k : Key} {v : V} {d : D} (r : Rep K mg H v d) : ∀ {ws : List (Key × V)} {kvs : List (Key × D)}, RepK K mg H ws kvs → RepK K mg H (ws ++ [(k, v)]) (kvs ++ [(k, d)])
  | _, _, .nil => .cons r .nil
  | _, _, .cons a t => .cons a (RepK.app r t)
theorem RepK.put {k : Key} {v : V} {d : D} (r : Rep K mg H v d) {ws : List (Key × V)} {kvs : List (Key × D)} (h : RepK K mg H ws kvs) : RepK K mg H (putK ws k v) (putKD kvs k d) := by
  unfold putK putKD
  rw [h.any]
  split
  · exact h.map r
  · exact h.app r
theorem rep_key {v : V} {k : Key} (r : Rep K mg H v (kD k)) : v = kV k := by
  cases k <;> cases r <;> rfl
end
section
variable {X : Cx} {w : Wi} {Γ Γ' : Ga} {M : Mm} {Q : D → Mm → Prop} {x : Str} {d : D} {o a b e : Expr} {es : List Expr} {pos apos p2 pos' : Pos} {k k0 : Nat} {n : Nm} {P : Po} {rest : List Stmt}
theorem ix_dict (hu : X.A.units + 1 < cLine) : IxR X (fun x y H Q => ∃ a v, x = .ref a ∧ DGet H a y (some v) ∧ Q v H) := by
  intro value slice pins s σ H x y v u Q I rx ry ⟨a, z, ex, g, q⟩ hs
  subst ex
  obtain rfl : v = Value.ref a := rx
  have ty := dict_typeIs I g
  unfold subscriptTail; refine wpAny_bind ?_
  rw [getitemInPython_of_ne ty.not_modules]; refine wpAny_bind (wpAny_specialOf ty PySem.F.slot_dict_getitem.lookup ?_)
  have tail : wpAny (model X.prog X.w) X.A (subscripted slice false (.ref a) u) (fun r s3 => wpAny (model X.prog X.w) X.A (letTemporaryGo value (.ref a) r >>= fun _ => pure r) (EP X pins σ Q) X.xe s3) X.xe s := by
    rw [hs]
    exact wpAny_operating (d_getItem hu I g ry fun w' s' I' r' => wpAny_bind (wpAny_letTemporaryGo (wpAny_pure ⟨z, H, I', r', q⟩)))
  first | exact wpAny_pure (wpAny_bind tail) | exact wpAny_bind (wpAny_pure (wpAny_bind tail)) | exact wpAny_bind tail
/-- the item at an index, at a key -/
def pIxK : PP2
  | .dK kvs, y, M, Q => ∃ k d, y = kD k ∧ valD kvs k = some d ∧ Q d M
  | .ptr p, y, M, Q => ∃ kvs k d, M p = some (.k kvs) ∧ y = kD k ∧ valD kvs k = some d ∧ Q d M
  | _, _, _, _ => False
def pIy : PP2 := fun x y M Q => pIx x y M Q ∨ pIxK x y M Q
theorem xd_iy (hu : X.A.units + 1 < cLine) : XD X pIy := by
  intro w F H0 Hb H σ Γ M v u x y Q A e rx ry q
  rcases q with q | q
  · exact xd_ix w F H0 Hb H σ Γ M v u x y Q A e rx ry q
  · cases rx with
    | dK h r =>
      obtain ⟨k, d, rfl, hv, q⟩ := q
      have ek := rep_key ry
      subst ek
      obtain ⟨z, h1, h2⟩ := r.val.1 d hv
      exact semI_of (ix_dict hu) ⟨_, z, rfl, .inl ⟨_, k, .inl (A.hs.ex _ _ h), rfl, h1.symm⟩, A.val e h2 q⟩
    | ptr =>
      obtain ⟨kvs, k, d, hm, rfl, hv, q⟩ := q
      have ek := rep_key ry
      subst ek
      obtain ⟨_, ws, h, r⟩ := A.hs.ce _ _ hm
      obtain ⟨z, h1, h2⟩ := r.val.1 d hv
      exact semI_of (ix_dict hu) ⟨_, z, rfl, .inl ⟨_, k, .inl h, rfl, h1.symm⟩, A.val e h2 q⟩
    | _ => exact q.elim
theorem de_iy (S : Sc X k n) (hs : PlainIx b) (h : DE X w a Γ M fun x M1 => DE X w b Γ M1 fun y M2 => pIy x y M2 Q) : DE X w (.Subscript a b pos) Γ M Q := de_ix (xd_iy (by have := S.u65; omega)) hs h
/-! o[i] = d, a list or a dict that changes -/
def pSetA : D → D → D → Mm → (Mm → Prop) → Prop := fun x y d M R => pSet x y d M R ∨ ∃ p kvs k, x = .ptr p ∧ y = kD k ∧ M p = some (.k kvs) ∧ kvs.length < sizeLine ∧ R (M.put p (.k (putKD kvs k d)))
theorem set_or {t t' : TSet} (h : PSet X t) (h' : PSet X t') : PSet X (fun o i v H Q => t o i v H Q ∨ t' o i v H Q) := fun pins s σ H o i v ov iv u Q I r1 r2 r3 q => by
  rcases q with q | q
  · exact h pins s σ H o i v ov iv u Q I r1 r2 r3 q
  · exact h' pins s σ H o i v ov iv u Q I r1 r2 r3 q
theorem dg_subA {d : D} {QG : Ga → Mm → Prop} (hu : X.A.units + 1 < cLine) (ha : ∀ v, assign (.Subscript o a pos) X.env v = (do
      let ov ← holding [v] (eval o X.env)
      let iv ← holding [v, ov] (eval a X.env)
      standAt pos
      holding [v, ov, iv] (setItem ov iv v)
      release [v, ov, iv] []))
    (h : DE X w o Γ M fun y M1 => DE X w a Γ M1 fun z M2 => pSetA y z d M2 fun M3 => QG Γ M3) : DG X w (.Subscript o a pos) d Γ M QG := .mk fun F σ H Hb v A r => by
  refine semG_of (pg_sub semE_ok semE_ok (set_or set_list (set_dict hu)) ha) ?_
  refine semE_mono (h.run F σ H Hb A) fun v1 H1 ⟨Hb1, d1, M1, e1, A1, r1, q1⟩ => ?_
  refine semE_mono (q1.run F σ H1 Hb1 A1) fun v2 H2 ⟨Hb2, d2, M2, e2, A2, r2, q2⟩ => ?_
  rcases q2 with q2 | ⟨p, kvs, k, h1, h2, h3, h4, q2⟩
  · cases d1 <;> first | exact q2.elim | skip
    cases d2 <;> first | exact q2.elim | skip
    obtain ⟨ds, j, h3, h4, q2⟩ := q2
    rw [rep_ptr r1]
    cases r2
    obtain ⟨_, us, g, rr⟩ := A2.hs.ce _ _ h3
    refine .inl ⟨_, us, _, j, rfl, rfl, g, by rw [rr.length]; exact h4, ?_⟩
    exact ⟨Hb2, Γ, _, e1.trans e2, A2.write (c := .l (ds.set j d)) h3 ⟨_, upd_same, rr.set ((r.mono e1).mono e2) j⟩, q2⟩
  · subst h1 h2
    rw [rep_ptr r1, rep_key r2]
    obtain ⟨_, ws, g, rr⟩ := A2.hs.ce _ _ h3
    refine .inr ⟨p, _, rfl, .inl ⟨ws, k, g, rfl, by rw [rr.length]; exact h4, rfl⟩, ?_⟩
    exact ⟨Hb2, Γ, _, e1.trans e2, A2.write (c := .k (putKD kvs k d)) h3 ⟨_, upd_same, rr.put ((r.mono e1).mono e2)⟩, q2⟩
theorem ds_asgSubA {spos : Pos} (S : Sc X k n) (hs : swapsWithSole [.Subscript o a pos] e spos.line X.env = pure false) (hw : swappedStores [.Subscript o a pos] e X.env = pure none) (h1 : (assignEach [.Subscript o a pos] X.env).map (·.2) = [assign (.Subscript o a pos) X.env])
    (ha : ∀ v, assign (.Subscript o a pos) X.env v = (do
      let ov ← holding [v] (eval o X.env)
      let iv ← holding [v, ov] (eval a X.env)
      standAt pos
      holding [v, ov, iv] (setItem ov iv v)
      release [v, ov, iv] []))
    (h : DE X w e Γ M fun d M1 => DE X w o Γ M1 fun y M2 => DE X w a Γ M2 fun z M3 => pSetA y z d M3 fun M4 => DS X w rest Γ M4 P) : DS X w (.Assign [.Subscript o a pos] e spos :: rest) Γ M P :=
  ds_asg hs hw h1 (de_imp h fun d M1 q => dg_subA (by have := S.u65; omega) ha q)
/-- {} -/
theorem de_dnew (h : ∀ p, M p = none → Q (.ptr p) (M.put p (.k []))) : DE X w (.Dict [] [] pos) Γ M Q := .mk fun F σ H Hb A =>
  semE_of pe_dnewK fun p hp => ⟨Hb, _, _, Ex.refl _, A.cell (c := .k []) hp ⟨[], upd_same, .nil⟩, .ptr, h p (A.hs.free hp)⟩
/-- d.setdefault(k, v) -/
theorem de_setdef (m : M2 X o "setdefault" apos a b pos)
    (h : DE X w o Γ M fun x M1 => ∃ p kvs0, x = .ptr p ∧ M1 p = some (.k kvs0) ∧ DE X w a Γ M1 fun y M2 => DE X w b Γ M2 fun z M3 => ∃ kvs k, M3 p = some (.k kvs) ∧ y = kD k ∧ kvs.length < sizeLine ∧ (∀ d, valD kvs k = some d → Q d M3) ∧ (valD kvs k = none → Q z (M3.put p (.k (putKD kvs k z))))) : DE X w (.Call (.Attribute o "setdefault" apos) [a, b] [] pos) Γ M Q := .mk fun F σ H Hb A => by
  refine semE_of (pe_dsetd semE_ok semE_ok semE_ok m) (semE_mono (h.run F σ H Hb A) fun v H1 ⟨Hb1, d1, M1, e1, A1, r1, p, kvs0, ex, hm, q1⟩ => ?_)
  subst ex
  rw [rep_ptr r1]
  obtain ⟨_, ws0, g0, rr0⟩ := A1.hs.ce _ _ hm
  refine ⟨p, rfl, .inl ⟨ws0, .inl g0⟩, semE_mono (q1.run F σ H1 Hb1 A1) fun v2 H2 ⟨Hb2, d2, M2, e2, A2, r2, q2⟩ => semE_mono (q2.run F σ H2 Hb2 A2) fun v3 H3 ⟨Hb3, d3, M3, e3, A3, r3, kvs, k, hm3, ey, hl, hs, hn⟩ => ?_⟩
  subst ey
  obtain ⟨_, ws, g, rr⟩ := A3.hs.ce _ _ hm3
  refine ⟨ws, k, g, rep_key r2, by rw [rr.length]; exact hl, fun v hv => ?_, fun hv => ?_⟩
  · cases hd : valD kvs k with
    | none => rw [rr.val.2 hd] at hv; cases hv
    | some d =>
      obtain ⟨z, h1, h2⟩ := rr.val.1 d hd
      rw [hv] at h1; cases h1
      exact A3.val ((e1.trans e2).trans e3) h2 (hs d hd)
  · have hd : valD kvs k = none := by
      cases hd : valD kvs k with
      | none => rfl
      | some d => obtain ⟨z, h1, _⟩ := rr.val.1 d hd; rw [hv] at h1; cases h1
    exact ⟨Hb3, _, _, (e1.trans e2).trans e3, A3.write (c := .k (putKD kvs k d3)) hm3 ⟨_, upd_same, rr.put r3⟩, r3, hn hd⟩
end
/-! ### 38. {k: v for x in ..} -/
theorem Hs.toCell {K : PySem.W.Frag} {mg : Str → Option Value} {F Hb H : Hp} {M : Mm} {p : Addr} {o : HO} {c : Cell} (h : Hs K mg (upd F p o) Hb H M) (hp : F p = none) (hc : CellOk K mg Hb H p c) : Hs K mg F Hb H (M.put p c) := by
  obtain ⟨h1, h2, h3⟩ := h.fr p o upd_same
  refine ⟨h.ex, fun q c' e => ?_, fun q u e => ?_⟩
  · by_cases z : q = p
    · subst z; rw [Mm.put_same] at e; cases e; exact ⟨h2, hc⟩
    · rw [Mm.put_ne z] at e; exact h.ce q c' e
  · have z : q ≠ p := fun z => by subst z; rw [hp] at e; cases e
    obtain ⟨g1, g2, g3⟩ := h.fr q u (by rw [upd_ne z]; exact e)
    exact ⟨g1, g2, by rw [Mm.put_ne z]; exact g3⟩
def dcW (X : Cx) (w : Wi) (σ : St) (Γ : Ga) (F Hb1 : Hp) (D0 : Addr) (ds : List D) (I : Nat → List (Key × D) → Mm → Prop) : Nat → Nat → Hp → Prop := fun i m H' => m = ds.length - i ∧ i ≤ ds.length ∧ ∃ Hb' M' acc us, Ex Hb1 Hb' ∧ At X w (upd F D0 (.dK us)) Hb' H' σ Γ M' ∧ RepK X.K X.mg Hb' us acc ∧ acc.length ≤ i ∧ I i acc M'
theorem putKD_len (kvs : List (Key × D)) (k : Key) (v : D) : (putKD kvs k v).length ≤ kvs.length + 1 := by
  unfold putKD; split <;> simp
section
variable {X : Cx} {w : Wi} {Γ Γc : Ga} {M : Mm} {Q : D → Mm → Prop} {v : Str} {vp pos : Pos} {i k : Nat} {iter kx vx : Expr} {scope sc : Scope} {n nb : Nm} {N : List Str} {cap : List Str}
theorem ps_setDc {X : Cx} {i : Nat} {y : Str} {py : Pos} {kx vx tg iter : Expr} {ifs : List Expr} {scope : Scope} {own : List (Str × Nat)} {pos spos : Pos} {wi : TI} {g : TG} {tt : TT} {tk tv : TE} (hc : X.calm = true) (hN : X.N.Nodup) (hy : X.N[i]? = some y) (hyl : X.env.scope.names.lookup y = some .local)
    (hsw : swapsWith (.DictComp kx vx [⟨tg, iter, ifs, 0⟩] scope pos) (some (.Name y py)) spos.line X.env = pure true) (hi : PI X tg iter wi) (ok : BlkOk X.N X.env.scope scope own)
    (hg : ∀ (s : Shared) (H : Hp) (C : Addr) (cl : List (Str × Addr)) (fp : List Addr), PG (X.blk s H scope (compEnvC scope cl C X.env) fp) tg g)
    (ht : ∀ (s : Shared) (H : Hp) (C : Addr) (cl : List (Str × Addr)) (fp : List Addr), PTs (X.blk s H scope (compEnvC scope cl C X.env) fp) ifs tt)
    (hk : ∀ (s : Shared) (H : Hp) (C : Addr) (cl : List (Str × Addr)) (fp : List Addr), PE (X.blk s H scope (compEnvC scope cl C X.env) fp) kx tk)
    (he : ∀ (s : Shared) (H : Hp) (C : Addr) (cl : List (Str × Addr)) (fp : List Addr), PE (X.blk s H scope (compEnvC scope cl C X.env) fp) vx tv)
    (hs : ∀ x, foldedSetIterable iter X.env x = pure x) : PS X (.Assign [.Name y py] (.DictComp kx vx [⟨tg, iter, ifs, 0⟩] scope pos) spos) (tAsg (tDc wi g tt tk tv (own.map (·.2))) (gName i)) := ⟨fun pins s σ H D I h => by
  rw [exec_Assign_Name_used y py _ spos hsw]
  refine wpAny_bind (wpAny_standAt (wpAny_bind ?_))
  have h : tDc wi g tt tk tv (own.map (·.2)) σ H fun x H1 => D.nx (σ.set i (some x)) H1 := h
  refine wpAny_bind (thn (dc_core hc hN I hi ok hg ht hk he hs h fun L C s' m H' I' q hn f => ?_) fun x s' hq => wpAny_pure (wpAny_pure hq))
  refine wpAny_assign_Name (store_ok2 (v := .ref L) I' hN hy (.inl hyl) rfl (fun s2 I2 ⟨a, sb, ha⟩ => ?_) (.inr hyl))
  obtain ⟨f0, f1, f2, f3, f4, f5⟩ := f
  have haC : C ≠ a := ha.elim (fun z => by rw [z]; exact f1) fun z e => f4 y a z e.symm
  exact ⟨m, Heap.Ns.sameBut hn sb haC, fun h3 sb3 => ⟨_, H', Inv.turned I2 (fun b o hb e => Eq.trans (sb3.right b hb) e) f0 f1 f3 f4 f5, q⟩⟩⟩
/-- what a dict comprehension asks -/
abbrev DcN (X : Cx) (w : Wi) (v : Str) (vp : Pos) (i : Nat) (iter kx vx : Expr) (scope : Scope) (k : Nat) (nb : Nm) (Γ Γc : Ga) (M : Mm) (Q : D → Mm → Prop) : Prop := DI X w (.Name v vp) iter Γ M fun ds M1 => ds.length ≤ 1000000 ∧ ∃ I : Nat → List (Key × D) → Mm → Prop, I 0 [] M1 ∧
      (∀ j d acc M, ds[j]? = some d → I j acc M → ∀ s0 H0 C cl fp, Sc (blkX X scope s0 H0 C cl fp) k nb → DE (blkX X scope s0 H0 C cl fp) w.dry kx ((v, i, some d) :: Γc) M fun y M3 =>
        ∀ s0 H0 C cl fp, Sc (blkX X scope s0 H0 C cl fp) k nb → DE (blkX X scope s0 H0 C cl fp) w.dry vx ((v, i, some d) :: Γc) M3 fun z M4 => ∃ k, y = kD k ∧ I (j + 1) (putKD acc k z) M4) ∧
      (∀ acc M, I ds.length acc M → ∀ p, M p = none → Q (.ptr p) (M.put p (.k acc)))
theorem dc_reading (S : Sc X k n) (hN : X.N = N) (hsc : X.env.scope = sc) (i : Nat) (cap : List Str) (nb : Nm) (chk : lcB N sc scope [(v, i)] cap nb = true) (hv : v ∈ nb.locs) (hb : ∀ y ∈ nb.bts, y ∈ n.bts) (pk : Pk Γ cap Γc) (nd : ((ownG [(v, i)] ++ Γc).map (·.2.1)).Nodup)
    {F Hb H : Hp} {σ : St} (A : At X w F Hb H σ Γ M) (h : DcN X w v vp i iter kx vx scope k nb Γ Γc M Q) : tDc (semIt X (.Name v vp) iter) (semGA X scope (.Name v vp)) tYes (semEA X scope kx) (semEA X scope vx) ([(v, i)].map (·.2)) σ H (PostE X w F Hb σ Γ Q) := by
  have L := lcB_of chk
  have B := blkG_of hN hsc L pk nd
  have Sb : ∀ s0 H0 C cl fp, Sc (blkX X scope s0 H0 C cl fp) k nb := fun s0 H0 C cl fp => S.blk hsc L.sb L.loc hb s0 H0 C cl fp
  refine semIt_mono (h.run F σ H Hb A) fun J H1 ⟨Hb1, M1, ds, e1, A1, it, hz, I, i0, turn, fin⟩ => fun D0 hD => ?_
  have hF : F D0 = none := A1.hs.freeF hD
  have exF : ∀ o, Ex F (upd F D0 o) := fun o => Ex.new hF
  refine ⟨dcW X w σ Γ F Hb1 D0 ds I, ⟨ds.length, by simp, Nat.zero_le _, Hb1, M1, [], [], Ex.refl _, ⟨A1.wok, A1.h0, A1.f0.trans (exF _), A1.hs.frame hD _, A1.sl⟩, .nil, Nat.zero_le _, i0⟩, ?_⟩
  rintro j m H' ⟨rfl, hi, Hb', M', acc, us, e', A', r', ha, q⟩
  by_cases hlt : j < ds.length
  · obtain ⟨go, yld⟩ := (it j _ Hb' H' M' e' A'.hs).1 hlt
    refine .inr ⟨go, fun H2 => dcW X w σ Γ F Hb1 D0 ds I (j + 1) (ds.length - (j + 1)) H2, fun H2 z => ⟨ds.length - (j + 1), by omega, z⟩, fun x H2 y => ?_⟩
    obtain ⟨Hb2, d, e2, hs2, hd, r⟩ := yld x H2 y
    have A2 : At X w (upd F D0 (.dK us)) Hb2 H2 σ Γ M' := A'.hsTo e2 hs2
    intro s0 H0 C cl fp
    have tgt : DGV (blkX X scope s0 H0 C cl fp) w.dry [i] (.Name v vp) d (ownG [(v, i)] ++ Γc) M' fun Γ2 M2 => Γ2 = (v, i, some d) :: Γc ∧ M2 = M' := dgv_name (Sb s0 H0 C cl fp) Put.here hv (by simp) ⟨rfl, rfl⟩
    refine semG_mono (tgt.run _ _ H2 Hb2 x (A2.toBlk B s0 H0 C cl fp) r) fun σ3 H3 ⟨w3, Hb3, Γ3, M3, e3, A3, hΓ, hM⟩ => ⟨w3.trans (wipe_wipe _ _), ?_⟩
    subst hΓ hM
    have key : ∀ Q : Bool → Hp → Prop, Q true H3 → tYes σ3 H3 Q := fun Q z => z
    refine key _ ?_
    rw [if_pos rfl]
    intro s1 H1' C1 cl1 fp1
    refine semE_mono ((turn j d acc M3 hd q s1 H1' C1 cl1 fp1 (Sb s1 H1' C1 cl1 fp1)).run _ σ3 H3 Hb3 (A3.blkTo s1 H1' C1 cl1 fp1)) fun y4 H4 ⟨Hb4, d4, M4, e4, A4, r4, q4⟩ => ?_
    intro s2 H2' C2 cl2 fp2
    refine semE_mono ((q4 s2 H2' C2 cl2 fp2 (Sb s2 H2' C2 cl2 fp2)).run _ σ3 H4 Hb4 (A4.blkTo s2 H2' C2 cl2 fp2)) fun y5 H5 ⟨Hb5, d5, M5, e5, A5, r5, kk, hk, q5⟩ => ?_
    subst hk
    have fr := (A5.hs.fr D0 _ upd_same).1
    have l := r'.length
    refine ⟨us, kk, rep_key r4, fr, by rw [sizeLine_eq]; omega, ?_⟩
    have hs5 := A5.hs.reframe (p := D0) upd_same (.dK (putK us kk y5))
    rw [upd_upd] at hs5
    have f5 : Ex w.f0 (upd F D0 (.dK (putK us kk y5))) := A1.f0.trans (exF _)
    have ex : Ex Hb2 Hb5 := (e3.trans e4).trans e5
    exact ⟨rfl, hlt, Hb5, M5, putKD acc kk d5, putK us kk y5, (e'.trans e2).trans ex, ⟨A2.wok, A2.h0.trans ex, f5, hs5, A2.sl.mono ex⟩, ((r'.mono e2).mono ex).put r5, by have := putKD_len acc kk d5; omega, q5⟩
  · have e : j = ds.length := by omega
    subst e
    have h3 := A'.hs.fr D0 _ upd_same
    have hs' := A'.hs.toCell hF (c := .k acc) ⟨us, h3.1, r'⟩
    exact .inl ⟨(it _ _ Hb' H' M' e' A'.hs).2 (Nat.le_refl _), Hb', .ptr D0, _, e1.trans e', ⟨A'.wok, A'.h0, A1.f0, hs', A'.sl⟩, .ptr, fin acc M' q D0 h3.2.2⟩
/-- {kx: vx for v in iter}: a dict that may change -/
theorem de_dcN (S : Sc X k n) (hN : X.N = N) (hsc : X.env.scope = sc) (i : Nat) (cap : List Str) (nb : Nm) (chk : lcB N sc scope [(v, i)] cap nb = true) (hv : v ∈ nb.locs) (hb : ∀ y ∈ nb.bts, y ∈ n.bts) (pk : Pk Γ cap Γc) (nd : ((ownG [(v, i)] ++ Γc).map (·.2.1)).Nodup)
    (hs : ∀ x, foldedSetIterable iter X.env x = pure x)
    (h : DcN X w v vp i iter kx vx scope k nb Γ Γc M Q) : DE X w (.DictComp kx vx [⟨.Name v vp, iter, [], 0⟩] scope pos) Γ M Q := .mk fun F σ H Hb A => by
  have L := lcB_of chk
  refine semE_of (pe_dc S.calm S.nd (semIt_ok (iter := iter) (tg := .Name v vp)) (own := [(v, i)]) (scope := scope) (g := semGA X scope (.Name v vp)) (tt := tYes) (tk := semEA X scope kx) (tv := semEA X scope vx) (by subst hN hsc; exact L.ok) semGA_ok (fun _ _ _ _ _ => pts_nil) semEA_ok semEA_ok hs) ?_
  exact dc_reading S hN hsc i cap nb chk hv hb pk nd A h
theorem ds_dcN {y : Str} {iy : Nat} {py spos : Pos} {P : Po} {rest : List Stmt} (S : Sc X k n) (hN : X.N = N) (hsc : X.env.scope = sc) (i : Nat) (cap : List Str) (nb : Nm) (chk : lcB N sc scope [(v, i)] cap nb = true) (hv : v ∈ nb.locs) (hb : ∀ y ∈ nb.bts, y ∈ n.bts) (pk : Pk Γ cap Γc) (nd : ((ownG [(v, i)] ++ Γc).map (·.2.1)).Nodup)
    (hs : ∀ x, foldedSetIterable iter X.env x = pure x)
    (hy : y ∈ n.lcl) {o : Option D} (hm : (y, iy, o) ∈ Γ) (hl : (py.line == pos.line) = true) (hny : (scope.names.any fun (n, k) => n == y && (k == .local || k == .cell)) = false)
    (h : DcN X w v vp i iter kx vx scope k nb Γ Γc M fun d M1 => ∃ Γ', Put Γ y d Γ' iy ∧ DS X w rest Γ' M1 P) : DS X w (.Assign [.Name y py] (.DictComp kx vx [⟨.Name v vp, iter, [], 0⟩] scope pos) spos :: rest) Γ M P := .mk fun F σ H Hb A => by
  have L := lcB_of chk
  have hsw : swapsWith (.DictComp kx vx [⟨.Name v vp, iter, [], 0⟩] scope pos) (some (.Name y py)) spos.line X.env = pure true := sw_true (l := spos.line) (elt := kx) (gs := [⟨.Name v vp, iter, [], 0⟩]) S.kd (S.lcl y hy) hl hny
  refine ds_seq (ps_setDc (i := iy) S.calm S.nd (A.sl.nm _ hm).1 (S.lcl y hy) hsw (semIt_ok (iter := iter) (tg := .Name v vp)) (own := [(v, i)]) (scope := scope) (g := semGA X scope (.Name v vp)) (tt := tYes) (tk := semEA X scope kx) (tv := semEA X scope vx) (by subst hN hsc; exact L.ok) semGA_ok (fun _ _ _ _ _ => pts_nil) semEA_ok semEA_ok hs) ?_
  have q := dc_reading S hN hsc i cap nb chk hv hb pk nd A h
  refine semIt_mono q fun J H1 q2 => fun D0 hD => ?_
  obtain ⟨W, w0, ws⟩ := q2 D0 hD
  refine ⟨W, w0, fun i m H' z => ?_⟩
  rcases ws i m H' z with ⟨st, ⟨Hb', d', M', e', A', r', Γ', hp, q'⟩⟩ | z
  · exact .inl ⟨st, semB_back e' (q'.run F _ H' Hb' (A'.put hp r'))⟩
  · exact .inr z
end
end L3
namespace L3
open PySem PySem.Spec PySem.Calls PyProof.Rows L2 PpSet
/-! ### 39. {e for x in ..}, whole numbers -/
def tScI (w : World) (wi : TI) (g : TG) (tt : TT) (te : TE) (vs : List Nat) : TE := fun σ H Q => wi σ H fun J H1 => ∀ D, H1 D = none → ∃ W : Nat → Nat → Hp → Prop, (∃ m, W 0 m (upd H1 D (SetO w D (fun _ => false) 0))) ∧ ∀ i m H, W i m H →
  J.stop i H ∧ Q (.ref D) H ∨ J.go i H ∧ ∃ Nx : Hp → Prop, (∀ H', Nx H' → ∃ m', m' < m ∧ W (i + 1) m' H') ∧ ∀ x H', J.yld i H x H' → g x (wipe σ vs) H' fun σ2 H2 => wipe σ2 vs = wipe σ vs ∧ tt σ2 H2 fun b H3 =>
    if b = true then te σ2 H3 fun y H4 => ∃ k S n, y = .int k ∧ H4 D = some (SetO w D S n) ∧ n + 1 < scanBound ∧ Nx (upd H4 D (SetO w D (fun j => S j || decide (j = k)) (if S k = true then n else n + 1))) else Nx H3
section
variable {X : Cx} {elt tg iter : Expr} {ifs : List Expr} {scope : Scope} {own : List (Str × Nat)} {pos pos' : Pos} {wi : TI} {g : TG} {tt : TT} {te : TE}
theorem pe_scI (hc : X.calm = true) (hN : X.N.Nodup) (hi : PI X tg iter wi) (ok : BlkOk X.N X.env.scope scope own)
    (hg : ∀ (s : Shared) (H : Hp) (C : Addr) (cl : List (Str × Addr)) (fp : List Addr), PG (X.blk s H scope (compEnvC scope cl C X.env) fp) tg g)
    (ht : ∀ (s : Shared) (H : Hp) (C : Addr) (cl : List (Str × Addr)) (fp : List Addr), PTs (X.blk s H scope (compEnvC scope cl C X.env) fp) ifs tt)
    (he : ∀ (s : Shared) (H : Hp) (C : Addr) (cl : List (Str × Addr)) (fp : List Addr), PE (X.blk s H scope (compEnvC scope cl C X.env) fp) elt te)
    (hs : ∀ x, foldedSetIterable iter X.env x = pure x) : PE X (.SetComp elt [⟨tg, iter, ifs, 0⟩] scope pos) (tScI X.w wi g tt te (own.map (·.2))) := ⟨fun pins s σ H Q I h => by
  rw [eval_SetComp]
  have hfree : ∀ y ∈ scope.names, y.2 = NameKind.free → ∃ c, List.lookup y.1 X.env.cells = some c := fun y hy e => (ok.free y hy e).elim (fun k => I.ok.has y.1 (.inl k)) fun k => I.ok.has y.1 (.inr k)
  refine wpAny_comprehension_free rfl hs (closure_ok hfree) ok.kind (fun y hy e => by rw [ok.uniq y hy, e]) (thn (hi.run pins s σ H _ I h) fun xv s1 hx => thn hx fun itv s2 h2 => ?_)
  obtain ⟨it, fp, tn, J, H2, rfl, I2, T, st2, f2, q⟩ := h2
  refine newSet_ok (newEnv_comp ?_)
  have hDn := I2.hok.fresh (Nat.le_of_eq rfl : s2.heap.objs.size ≤ s2.heap.objs.size)
  obtain ⟨W, ⟨m0, w0⟩, turn⟩ := q s2.heap.objs.size hDn
  generalize hs3 : ({ heap := s2.heap.push { cls := Value.type "set", data := Data.set #[] 0 (SetTable.fresh 0 0 !X.w.params.followText "set-order") }, gens := s2.gens, drawn := s2.drawn, toks := s2.toks, os := s2.os } : Shared) = s3
  have e3 : s3.heap = s2.heap.push { cls := Value.type "set", data := Data.set #[] 0 (SetTable.fresh 0 0 !X.w.params.followText "set-order") } := by rw [← hs3]
  have I3 : L2.Inv X pins σ (upd H2 s2.heap.objs.size (SetO X.w s2.heap.objs.size (fun _ => false) 0)) s3 := by
    rw [← hs3]
    exact Inv.laid I2 (fun b o e => Heap.get?_push_of_some _ e) (Nat.le_of_eq rfl) (setO_new (setR_fresh X.w))
  have sz : ∀ b ∈ fp, b < s2.heap.objs.size := fun b hb => by
    obtain ⟨o, e, _⟩ := T.obj 0 s2.heap st2 b hb
    exact Heap.lt_size e
  have f3 : ∀ b ∈ fp, FpOk X pins (upd H2 s2.heap.objs.size (SetO X.w s2.heap.objs.size (fun _ => false) 0)) b ∧ b < s3.heap.objs.size := fun b hb => by
    refine ⟨⟨by rw [upd_ne (Nat.ne_of_lt (sz b hb))]; exact (f2 b hb).1, (f2 b hb).2⟩, ?_⟩
    rw [e3, Heap.size_push]
    exact Nat.lt_succ_of_lt (sz b hb)
  have st3 : tn 0 s3.heap := T.keep 0 s2.heap s3.heap st2 fun b _ o e => by rw [e3]; exact Heap.get?_push_of_some _ e
  have I4 := block_start I3 ok hN f3
  have pg := hg s3 (upd H2 s2.heap.objs.size (SetO X.w s2.heap.objs.size (fun _ => false) 0)) s3.heap.objs.size (cellsFrom (s3.heap.objs.size + 1) scope.names (cloFrom X.env.cells scope.names [])) fp
  have pt := ht s3 (upd H2 s2.heap.objs.size (SetO X.w s2.heap.objs.size (fun _ => false) 0)) s3.heap.objs.size (cellsFrom (s3.heap.objs.size + 1) scope.names (cloFrom X.env.cells scope.names [])) fp
  have pe := he s3 (upd H2 s2.heap.objs.size (SetO X.w s2.heap.objs.size (fun _ => false) 0)) s3.heap.objs.size (cellsFrom (s3.heap.objs.size + 1) scope.names (cloFrom X.env.cells scope.names [])) fp
  have nfp : ∀ b ∈ fp, upd H2 s2.heap.objs.size (SetO X.w s2.heap.objs.size (fun _ => false) 0) b = none := fun b hb => (f3 b hb).1.1
  change codeAny _ _ (Code.compStart _ 0 _ _ (compEnvC scope (cellsFrom (s3.heap.objs.size + 1) scope.names (cloFrom X.env.cells scope.names [])) s3.heap.objs.size X.env)) (compPost _ _ _ _ _ _ s3.heap.objs.size) _
  have st4 := T.keep 0 s3.heap (pushCells (s3.heap.push { cls := Value.type "dict", data := Data.dict #[] }) scope.names) st3 fun b _ o e => pushCells_keeps scope.names _ b o (Heap.get?_push_of_some _ e)
  generalize hCE : compEnvC scope (cellsFrom (s3.heap.objs.size + 1) scope.names (cloFrom X.env.cells scope.names [])) s3.heap.objs.size X.env = ce at I4 pg pt pe ⊢
  have cL : ce.locals = s3.heap.objs.size := by rw [← hCE]; rfl
  generalize hXB : X.blk s3 (upd H2 s2.heap.objs.size (SetO X.w s2.heap.objs.size (fun _ => false) 0)) scope ce fp = XB at I4 pg pt pe
  have b1 : XB.prog = X.prog := by rw [← hXB]
  have b2 : XB.w = X.w := by rw [← hXB]
  have b3 : XB.K = X.K := by rw [← hXB]
  have stat : ∀ {σ' : St} {H' : Hp} {s' : Shared}, L2.Inv XB [] σ' H' s' → (∀ b ∈ fp, H' b = none) → ∀ b ∈ fp, FpOk XB [] H' b := by
    subst hXB
    exact fun I' hn b hb => ⟨hn b hb, (I'.ok.exf b hb).1, I'.ok.exfs b hb, .inl hb, fun x c e => (I'.ok.exf b hb).2 x c e, fun p hp => by
      have : p ∈ ([] : List (Addr × Obj)) ++ [] := hp
      simp at this⟩
  have loop := compLoopS_any (prog := X.prog) (w := X.w) (A := X.A) (R := compPost (model X.prog X.w) X.A X.xe none (EP X pins σ Q) (Value.ref s2.heap.objs.size) s3.heap.objs.size) (env := ce) (elt := elt) (target := tg) (iter := iter) (ifs := ifs) (scope := scope) (pos := pos) (it := .ref it) (acc := .ref s2.heap.objs.size)
    (fun n s' => ∃ i H', L2.Inv XB [] (wipe σ (own.map (·.2))) H' s' ∧ tn i s'.heap ∧ (∀ b ∈ fp, H' b = none) ∧ W i n H') ?_ m0 ⟨0, _, I4, st4, nfp, w0⟩
  · exact codeAny_compStart_set loop (T.self X.A 0 _ _ _ st4 loop)
  rintro n s5 ⟨i, H5, I5, st5, n5, w5⟩
  rcases turn i n H5 w5 with ⟨stop, qq⟩ | ⟨go, Nx, hNx, step⟩
  · subst hXB
    refine thnF (T.done (X.blk s3 _ scope ce fp) rfl rfl rfl hc i [] s5 _ H5 (fun _ _ => False) I5 (stat I5 n5) st5 stop) fun r s6 ⟨hr, I6⟩ => ?_
    subst hr
    have I7 : L2.Inv X pins σ H5 s6 := Inv.call' I3 I6.os I6.base I6.hok I6.bare fun b hb => ⟨(f3 b hb).1.2.2.2.1, (f3 b hb).1.2.1, (f3 b hb).1.2.2.2.2.1, (f3 b hb).1.2.2.2.2.2⟩
    have nC : H5 s3.heap.objs.size = none := by have z : H5 ce.locals = none := I6.free; rw [cL] at z; exact z
    obtain ⟨m, hn, _⟩ := I6.loc
    have hn' : s6.heap.Ns ce.locals m := hn
    rw [cL] at hn'
    obtain ⟨f0, f1, f2, f3, f4, f5⟩ := Inv.fpOk I3 (Nat.le_refl _) nC
    exact ⟨m, hn', fun h' sb => ⟨.ref s2.heap.objs.size, H5, Inv.turned I7 (fun b o hb e => Eq.trans (sb.right b hb) e) f0 f1 f3 f4 f5, rfl, qq⟩⟩
  · have hxe : XB.xe = fun _ _ => False := by rw [← hXB]
    subst hXB
    refine thnF (T.item (X.blk s3 _ scope ce fp) rfl rfl rfl hc i [] s5 _ H5 (fun _ _ => False) I5 (stat I5 n5) st5 go) fun r s6 ⟨u, hr, h6⟩ => ?_
    subst hr
    refine thnF h6 fun _ s7 ⟨x, H7, I7, r7, y7, st7, n7⟩ => ?_
    have I7' := Inv.pinned I7 (stat I7 n7) (T.obj (i + 1) s7.heap st7)
    refine thnF (pg.run _ s7 _ H7 x u _ I7' r7 (step x H7 y7)) fun _ s8 ⟨σ8, H8, I8, hw8, q8⟩ => ?_
    refine thnF (pt.run _ s8 σ8 H8 _ I8 q8) fun b s9 ⟨H9, I9, q9⟩ => ?_
    have fin : ∀ {s' : Shared} {H' : Hp}, L2.Inv (X.blk s3 (upd H2 s2.heap.objs.size (SetO X.w s2.heap.objs.size (fun _ => false) 0)) scope ce fp) ([] ++ pinsAt fp s7.heap) σ8 H' s' → Nx H' → ∃ m, m < n ∧ ∃ i H', L2.Inv (X.blk s3 (upd H2 s2.heap.objs.size (SetO X.w s2.heap.objs.size (fun _ => false) 0)) scope ce fp) [] (wipe σ (own.map (·.2))) H' s' ∧ tn i s'.heap ∧ (∀ b ∈ fp, H' b = none) ∧ W i m H' := fun {s' H'} I' nx => by
      obtain ⟨m', hm, w'⟩ := hNx H' nx
      have pin' : ∀ b ∈ fp, ∀ o, s7.heap.get? b = some o → s'.heap.get? b = some o ∧ H' b = none := fun b hb o e => by
        have z := I'.pin (b, o) (List.mem_append_right _ (List.mem_append_right [] (mem_pinsAt hb e)))
        exact ⟨z.1, z.2.1⟩
      refine ⟨m', hm, i + 1, H', Inv.weak (Inv.unpinned I') (by rw [← hw8, wipe_length]) fun j v e => (wipe_some (by rw [hw8]; exact e)).1, T.keep (i + 1) s7.heap s'.heap st7 fun b hb o e => (pin' b hb o e).1, fun b hb => ?_, w'⟩
      obtain ⟨o, e, _⟩ := T.obj (i + 1) s7.heap st7 b hb
      exact (pin' b hb o e).2
    cases b with
    | false => rw [if_neg Bool.false_ne_true] at q9 ⊢; exact fin I9 q9
    | true =>
      rw [if_pos rfl] at q9 ⊢
      refine thnF (pe.run _ s9 σ8 H9 _ I9 q9) fun z s10 ⟨yv, H10, I10, r10, k, S0, n0, ey, hD, hz, nx⟩ => ?_
      subst ey
      refine thnF (mt_sadd _ s10 σ8 H10 (.ref s2.heap.objs.size) [.int k] (.ref s2.heap.objs.size) [z] (fun _ H' => Nx H') I10 rfl (.cons r10 .nil) ⟨_, k, S0, n0, rfl, rfl, hD, hz, nx⟩) fun _ s11 ⟨_, H11, I11, _, nx⟩ => fin I11 nx⟩
end
/-! ### 40. sorted, min, extend -/
def strsS (ys : List Str) : Bool := PyProof.Rows.sortedS ys
section
variable {X : Cx} {w : Wi} {Γ Γ' Γc : Ga} {M : Mm} {Q : D → Mm → Prop} {x v f : Str} {i k : Nat} {d : D} {a b e o iter elt c : Expr} {es : List Expr} {pos cpos apos p p2 vp : Pos} {n nb : Nm} {P : Po} {rest sts : List Stmt} {N cap : List Str} {sc scope : Scope}
def pMin : PP1 := fun x M Q => ∃ ns : List Int, x = .lst (ns.map .int) ∧ 0 < ns.length ∧ ∀ m, m ∈ ns → (∀ y ∈ ns, m ≤ y) → Q (.int m) M
theorem cd_min (hc : X.calm = true) : CD X (.builtin "min") (one pMin) := .one fun w F H0 Hb H σ Γ M v x Q A e r ⟨ns, hx, h0, q⟩ => by
  subst hx
  cases r with
  | lst h r => exact semC_of (cr_min hc) ⟨_, ns, rfl, by rw [← reps_ints r]; exact SqL.of (A.hs.ex _ _ h), h0, fun m h1 h2 => A.val e .int (q m h1 h2)⟩
def pSorted : PP1 := fun x M Q => (∃ ns : List Int, x = .lst (ns.map .int) ∧ ∀ ns' : List Int, ns'.Perm ns → ns'.Pairwise (· ≤ ·) → Q (.lst (ns'.map .int)) M) ∨
  ∃ ss : List Str, x = .lst (ss.map .str) ∧ ss.length < 64 ∧ ∀ ys : List Str, ys.Perm ss → strsS ys = true → Q (.lst (ys.map .str)) M
theorem cd_sorted : CD X (.builtin "sorted") (one pSorted) := .one fun w F H0 Hb H σ Γ M v x Q A e r q => by
  rcases q with ⟨ns, hx, q⟩ | ⟨ns, hx, hl, q⟩
  · subst hx
    cases r with
    | lst h r => exact semC_of cr_sortedI ⟨_, ns, rfl, by rw [← reps_ints r]; exact SqL.of (A.hs.ex _ _ h), fun ns' p h1 h2 hp => A.lst e of_ints hp (q ns' h1 h2)⟩
  · subst hx
    cases r with
    | lst h r => exact semC_of cr_sortedS ⟨_, ns, rfl, by rw [← reps_strs r]; exact SqL.of (A.hs.ex _ _ h), hl, fun ns' p h1 h2 hp => A.lst e of_strs hp (q ns' h1 h2)⟩
theorem boot_min : bootBuiltins ("min" : Str) = some (.builtin "min") := by kernel_rfl
theorem boot_sorted : bootBuiltins ("sorted" : Str) = some (.builtin "sorted") := by kernel_rfl
theorem de_min (S : Sc X k n) (hs : starEach [a] X.env = [(false, eval a X.env)]) (hx : ("min" : Str) ∈ n.glb) (hb : ("min" : Str) ∈ n.bts) (h : DE X w a Γ M fun d M1 => pMin d M1 Q) : DE X w (.Call (.Name "min" p) [a] [] pos) Γ M Q :=
  de_callB S hx (S.bt _ hb) boot_min (cd_min S.calm) hs rfl (da_cons hs (de_imp h fun d M1 q => da_nil q))
theorem de_sorted (S : Sc X k n) (hs : starEach [a] X.env = [(false, eval a X.env)]) (hx : ("sorted" : Str) ∈ n.glb) (hb : ("sorted" : Str) ∈ n.bts) (h : DE X w a Γ M fun d M1 => pSorted d M1 Q) : DE X w (.Call (.Name "sorted" p) [a] [] pos) Γ M Q :=
  de_callB S hx (S.bt _ hb) boot_sorted cd_sorted hs rfl (da_cons hs (de_imp h fun d M1 q => da_nil q))
/-- l.extend(ds) -/
def pExt : PPM
  | .ptr p, [.lst es], M, Q => ∃ ds, M p = some (.l ds) ∧ ds.length + es.length ≤ sizeLine ∧ Q .non (M.put p (.l (ds ++ es)))
  | _, _, _, _ => False
theorem md_ext : MD X "list" "list.extend" pExt := fun w F H0 Hb H σ Γ M v vs x xs Q A e rx rs q => by
  cases rx with
  | @ptr p =>
    cases rs with
    | nil => exact q.elim
    | cons r1 r2 =>
      cases r2 with
      | cons _ _ => exact (by cases r1 <;> exact q.elim)
      | nil =>
        cases r1 with
        | lst h1 h2 =>
          obtain ⟨ds, h0, h3, q⟩ := q
          obtain ⟨_, us, h, r⟩ := A.hs.ce _ _ h0
          exact semM_of mt_extend ⟨_, _, us, _, rfl, rfl, h, A.hs.ex _ _ h1, by rw [r.length, h2.length]; exact h3, Hb, .non, _, e, A.write (c := .l (ds ++ _)) h0 ⟨_, upd_same, r.append h2⟩, .non, q⟩
        | _ => exact q.elim
  | _ => exact q.elim
theorem de_extend (hs : starEach [e] X.env = [(false, eval e X.env)]) (hbase : attributeBase o "extend" X.env (eval o X.env) = eval o X.env) (hline : (apos.endLine == cpos.line) = true)
    (h : DE X w o Γ M fun x M1 => ∃ p ds, x = .ptr p ∧ M1 p = some (.l ds) ∧ DE X w e Γ M1 fun d M2 => ∃ ds es, d = .lst es ∧ M2 p = some (.l ds) ∧ ds.length + es.length ≤ sizeLine ∧ Q .non (M2.put p (.l (ds ++ es)))) : DE X w (.Call (.Attribute o "extend" apos) [e] [] cpos) Γ M Q :=
  de_bm PySem.F.plainAttrs_list PySem.F.slot_list_extend PySem.F.type_list_extend md_ext hbase (by rw [hs]; rfl) hline hs rfl (de_imp h fun x M1 ⟨p, ds, hx, hm, q⟩ => by
    subst hx
    exact ⟨⟨rfl, ds, hm⟩, da_cons hs (de_imp q fun d M2 ⟨ds, es, hd, h1, h2, q⟩ => da_nil (by subst hd; exact ⟨ds, h1, h2, q⟩))⟩)
/-- a dict (a list) that a field of a thing holds is data from here on -/
theorem lookup_putD {v : D} : ∀ {fs : List (Str × D)} {d : D}, fs.lookup f = some d → ∀ {K : PySem.W.Frag} {mg : Str → Option Value} {Hb : Hp} {ws : List (Str × V)} {u : V}, RepF K mg Hb ws fs → ws.lookup f = some u → Rep K mg Hb u v → RepF K mg Hb ws (putD f v fs)
  | (g, x) :: fs, d, h, K, mg, Hb, _, u, .cons (v := z) r t, hu, hv => by
    unfold putD
    rw [List.lookup_cons] at h hu
    by_cases e : g = f
    · subst e
      rw [if_pos rfl]
      have : (g == g) = true := by simp
      rw [this] at hu
      simp only [Option.some.injEq] at hu
      subst hu
      exact .cons hv t
    · rw [if_neg e]
      have : (f == g) = false := by simpa using fun h => e h.symm
      rw [this] at h hu
      exact .cons r (lookup_putD h t hu hv)
theorem ds_frzF {p q : Addr} {cl : Cell} {cn : Str} {fs : List (Str × D)} (hx : M p = some (.o cn fs)) (hf : fs.lookup f = some (.ptr q)) (hm : M q = some cl) (hpq : p ≠ q) (h : DS X w sts Γ ((M.del q).put p (.o cn (putD f cl.data fs))) P) : DS X w sts Γ M P := .mk fun F σ H Hb A => by
  obtain ⟨o, e1, r⟩ := (A.hs.ce q cl hm).2.rep
  obtain ⟨hs, ex⟩ := A.hs.freeze hm e1
  obtain ⟨n1, dx, ws, e2, rf⟩ := A.hs.ce p _ hx
  obtain ⟨u, g1, g2⟩ := rf.lookup hf
  have ev := rep_ptr g2
  subst ev
  have hs2 : Hs X.K X.mg F (upd Hb q o) H ((M.del q).put p (.o cn (putD f cl.data fs))) := by
    refine ⟨hs.ex, fun b c' e => ?_, fun b u e => ?_⟩
    · by_cases z : b = p
      · subst z
        rw [Mm.put_same] at e; cases e
        exact ⟨by rw [upd_ne hpq]; exact n1, dx, ws, e2, lookup_putD hf (rf.mono ex) g1 (r _ ex upd_same)⟩
      · rw [Mm.put_ne z] at e; exact hs.ce b c' e
    · obtain ⟨k1, k2, k3⟩ := hs.fr b u e
      refine ⟨k1, k2, ?_⟩
      by_cases z : b = p
      · subst z
        have := (A.hs.fr b u e).2.2
        rw [hx] at this; cases this
      · rw [Mm.put_ne z]; exact k3
  exact semB_back ex (h.run F σ H _ ⟨A.wok, A.h0.trans ex, A.f0, hs2, A.sl.mono ex⟩)
/-- sorted({elt for v in iter if c}), whole numbers -/
def scW {α : Type} (X : Cx) (w : Wi) (σ : St) (Γ : Ga) (M : Mm) (F Hb1 : Hp) (D0 : Addr) (xs : List α) (g : α → Int) (p : α → Bool) : Nat → Nat → Hp → Prop := fun i m H' => m = xs.length - i ∧ i ≤ xs.length ∧ ∃ Hb' S n, Ex Hb1 Hb' ∧ At X w (upd F D0 (SetO X.w D0 S n)) Hb' H' σ Γ M ∧ n ≤ i ∧ ∀ k, S k = true ↔ ∃ x ∈ xs.take i, p x = true ∧ g x = k
theorem de_sortSC {α : Type} (S : Sc X k n) (hN : X.N = N) (hsc : X.env.scope = sc) (i : Nat) (cap : List Str) (nb : Nm) (chk : lcB N sc scope [(v, i)] cap nb = true) (hv : v ∈ nb.locs) (hb : ∀ y ∈ nb.bts, y ∈ n.bts) (pk : Pk Γ cap Γc) (nd : ((ownG [(v, i)] ++ Γc).map (·.2.1)).Nodup)
    (hs : ∀ x, foldedSetIterable iter X.env x = pure x) (hx : ("sorted" : Str) ∈ n.glb) (hbt : ("sorted" : Str) ∈ n.bts) (he1 : starEach [Expr.SetComp elt [⟨.Name v vp, iter, [c], 0⟩] scope pos] X.env = [(false, eval (Expr.SetComp elt [⟨.Name v vp, iter, [c], 0⟩] scope pos) X.env)])
    (xs : List α) (f : α → D) (g : α → Int) (pr : α → Bool) (hz : xs.length < 64) (hi : DI X w (.Name v vp) iter Γ M fun ds M1 => ds = xs.map f ∧ M1 = M)
    (hc : ∀ x ∈ xs, ∀ s0 H0 C cl fp, Sc (blkX X scope s0 H0 C cl fp) k nb → DT (blkX X scope s0 H0 C cl fp) w.dry c ((v, i, some (f x)) :: Γc) M fun t M4 => t = pr x ∧ M4 = M)
    (he : ∀ x ∈ xs, pr x = true → ∀ s0 H0 C cl fp, Sc (blkX X scope s0 H0 C cl fp) k nb → DE (blkX X scope s0 H0 C cl fp) w.dry elt ((v, i, some (f x)) :: Γc) M fun r M4 => r = .int (g x) ∧ M4 = M)
    (q : ∀ ns : List Int, ns.Pairwise (· < ·) → (∀ k, k ∈ ns ↔ ∃ x ∈ xs, pr x = true ∧ g x = k) → Q (.lst (ns.map .int)) M) : DE X w (.Call (.Name "sorted" p) [.SetComp elt [⟨.Name v vp, iter, [c], 0⟩] scope pos] [] cpos) Γ M Q := .mk fun F σ H Hb A => by
  have L := lcB_of chk
  have B := blkG_of hN hsc L pk nd
  have Sb : ∀ s0 H0 C cl fp, Sc (blkX X scope s0 H0 C cl fp) k nb := fun s0 H0 C cl fp => S.blk hsc L.sb L.loc hb s0 H0 C cl fp
  have pc : PE X (.SetComp elt [⟨.Name v vp, iter, [c], 0⟩] scope pos) _ := pe_scI S.calm S.nd (semIt_ok (iter := iter) (tg := .Name v vp)) (own := [(v, i)]) (scope := scope) (ifs := [c]) (pos := pos) (g := semGA X scope (.Name v vp)) (tt := semIfA X scope [c]) (te := semEA X scope elt) (by subst hN hsc; exact L.ok) semGA_ok semIfA_ok semEA_ok hs
  refine semE_of (pe_callB (cr_sortedSet S.calm) (S.gl _ hx).1 (S.bt _ hbt) boot_sorted (pa_cons pc pa_nil he1) (okN_n (S.gl _ hx).2) (okN_d (S.gl _ hx).2) he1 rfl) ?_
  refine semIt_mono (hi.run F σ H Hb A) fun J H1 ⟨Hb1, M1, ds, e1, A1, it, hds, hM⟩ => fun D0 hD => ?_
  subst hds hM
  have hF : F D0 = none := A1.hs.freeF hD
  have exF : ∀ o, Ex F (upd F D0 o) := fun o => Ex.new hF
  refine ⟨scW X w σ Γ M1 F Hb1 D0 xs g pr, ⟨xs.length, by simp, Nat.zero_le _, Hb1, fun _ => false, 0, Ex.refl _, ⟨A1.wok, A1.h0, A1.f0.trans (exF _), A1.hs.frame hD _, A1.sl⟩, Nat.le_refl _, by simp⟩, ?_⟩
  rintro j m H' ⟨rfl, hi', Hb', S0, n0, e', A', hn, hS⟩
  by_cases hlt : j < xs.length
  · obtain ⟨go, yld⟩ := (it j _ Hb' H' M1 e' A'.hs).1 (by rw [List.length_map]; exact hlt)
    refine .inr ⟨go, fun H2 => scW X w σ Γ M1 F Hb1 D0 xs g pr (j + 1) (xs.length - (j + 1)) H2, fun H2 z => ⟨xs.length - (j + 1), by omega, z⟩, fun x H2 y => ?_⟩
    obtain ⟨Hb2, d, e2, hs2, hd, r⟩ := yld x H2 y
    rw [List.getElem?_map, List.getElem?_eq_getElem hlt] at hd
    simp only [Option.map_some, Option.some.injEq] at hd
    subst hd
    have hm : xs[j] ∈ xs := List.getElem_mem hlt
    have hg : xs[j]? = some xs[j] := List.getElem?_eq_getElem hlt
    have A2 : At X w (upd F D0 (SetO X.w D0 S0 n0)) Hb2 H2 σ Γ M1 := A'.hsTo e2 hs2
    intro s0 H0 C cl fp
    have tgt : DGV (blkX X scope s0 H0 C cl fp) w.dry [i] (.Name v vp) (f xs[j]) (ownG [(v, i)] ++ Γc) M1 fun Γ2 M2 => Γ2 = (v, i, some (f xs[j])) :: Γc ∧ M2 = M1 := dgv_name (Sb s0 H0 C cl fp) Put.here hv (by simp) ⟨rfl, rfl⟩
    refine semG_mono (tgt.run _ _ H2 Hb2 x (A2.toBlk B s0 H0 C cl fp) r) fun σ3 H3 ⟨w3, Hb3, Γ3, M3, e3, A3, hΓ, hM⟩ => ⟨w3.trans (wipe_wipe _ _), ?_⟩
    subst hΓ hM
    intro s1 H1' C1 cl1 fp1
    refine semT_mono ((hc _ hm s1 H1' C1 cl1 fp1 (Sb s1 H1' C1 cl1 fp1)).run _ σ3 H3 Hb3 (A3.blkTo s1 H1' C1 cl1 fp1)) fun t H4 ⟨Hb4, M4, e4, A4, ht, hM⟩ => ?_
    subst ht hM
    cases hp : pr xs[j] with
    | false =>
      rw [if_neg Bool.false_ne_true]
      refine ⟨rfl, hlt, Hb4, S0, n0, ((e'.trans e2).trans e3).trans e4, ⟨A2.wok, (A2.h0.trans e3).trans e4, A2.f0, A4.hs, (A2.sl.mono e3).mono e4⟩, by omega, fun k => ?_⟩
      rw [hS k, take_more hg]
      constructor
      · rintro ⟨x, h1, h2⟩; exact ⟨x, List.mem_append_left _ h1, h2⟩
      · rintro ⟨x, h1, h2, h3⟩
        rcases List.mem_append.mp h1 with h1 | h1
        · exact ⟨x, h1, h2, h3⟩
        · rw [List.mem_singleton.mp h1, hp] at h2; cases h2
    | true =>
      rw [if_pos rfl]
      intro s2 H2' C2 cl2 fp2
      refine semE_mono ((he _ hm hp s2 H2' C2 cl2 fp2 (Sb s2 H2' C2 cl2 fp2)).run _ σ3 H4 Hb4 (A4.blkTo s2 H2' C2 cl2 fp2)) fun y5 H5 ⟨Hb5, d5, M5, e5, A5, r5, hd, hM⟩ => ?_
      subst hd hM
      cases r5
      have fr := (A5.hs.fr D0 _ upd_same).1
      have sb : scanBound = 4096 := by decide +kernel
      refine ⟨_, S0, n0, rfl, fr, by omega, ?_⟩
      have hs5 := A5.hs.reframe (p := D0) upd_same (SetO X.w D0 (fun j' => S0 j' || decide (j' = g xs[j])) (if S0 (g xs[j]) = true then n0 else n0 + 1))
      rw [upd_upd] at hs5
      have f5 : Ex w.f0 (upd F D0 (SetO X.w D0 (fun j' => S0 j' || decide (j' = g xs[j])) (if S0 (g xs[j]) = true then n0 else n0 + 1))) := A1.f0.trans (exF _)
      refine ⟨rfl, hlt, Hb5, _, _, (((e'.trans e2).trans e3).trans e4).trans e5, ⟨A2.wok, ((A2.h0.trans e3).trans e4).trans e5, f5, hs5, ((A2.sl.mono e3).mono e4).mono e5⟩, by split <;> omega, fun k => ?_⟩
      rw [Bool.or_eq_true, hS k, take_more hg]
      constructor
      · rintro (⟨x, h1, h2⟩ | h)
        · exact ⟨x, List.mem_append_left _ h1, h2⟩
        · exact ⟨xs[j], List.mem_append_right _ (List.mem_singleton.mpr rfl), hp, (of_decide_eq_true h).symm⟩
      · rintro ⟨x, h1, h2, h3⟩
        rcases List.mem_append.mp h1 with h1 | h1
        · exact .inl ⟨x, h1, h2, h3⟩
        · rw [List.mem_singleton.mp h1] at h3
          exact .inr (decide_eq_true h3.symm)
  · have e : j = xs.length := by omega
    subst e
    refine .inl ⟨(it _ _ Hb' H' M1 e' A'.hs).2 (by rw [List.length_map]; exact Nat.le_refl _), ?_⟩
    refine ⟨D0, S0, n0, rfl, (A'.hs.fr D0 _ upd_same).1, by omega, fun ns p' h1 h2 h3 hp => ?_⟩
    have A3 : At X w F Hb' H' σ Γ M1 := ⟨A'.wok, A'.h0, A1.f0, A'.hs.less (exF _), A'.sl⟩
    refine A3.lst (e1.trans e') of_ints hp (q ns h1 fun k => ?_)
    rw [h2 k, hS k, List.take_length]
end
end L3
namespace L3
open PySem PySem.Spec PyProof.Rows L2
/-! ### 41. Dicts of plain values -/
instance keyMem (k : Key) (l : List Key) : Decidable (k ∈ l) := @List.instDecidableMemOfLawfulBEq Key instBEqOfDecidableEq inferInstance k l
section
variable {α : Type}
def valL (f : List (Key × α)) (k : Key) : Option α := (f.find? fun e => decide (e.1 = k)).map (·.2)
def putL (f : List (Key × α)) (k : Key) (v : α) : List (Key × α) :=
  if (f.any fun e => decide (e.1 = k)) = true then f.map (fun e => if e.1 = k then (e.1, v) else e) else f ++ [(k, v)]
def encF (g : α → D) (f : List (Key × α)) : List (Key × D) := f.map fun e => (e.1, g e.2)
theorem encF_length (g : α → D) (f : List (Key × α)) : (encF g f).length = f.length := List.length_map ..
theorem valL_nil {k : Key} : valL ([] : List (Key × α)) k = none := rfl
theorem valL_cons {e : Key × α} {f : List (Key × α)} {k : Key} : valL (e :: f) k = if e.1 = k then some e.2 else valL f k := by
  unfold valL; rw [List.find?_cons]
  by_cases h : e.1 = k <;> simp [h]
theorem valD_enc (g : α → D) : ∀ (f : List (Key × α)) (k : Key), valD (encF g f) k = (valL f k).map g
  | [], _ => rfl
  | e :: f, k => by
    have ih := valD_enc g f k
    unfold valD encF at ih ⊢
    rw [valL_cons, List.map_cons, List.find?_cons]
    by_cases h : e.1 = k
    · simp [h]
    · simp only [h, if_false, decide_false]; exact ih
theorem any_enc (g : α → D) (f : List (Key × α)) (k : Key) : ((encF g f).any fun e => decide (e.1 = k)) = f.any fun e => decide (e.1 = k) := by
  unfold encF; rw [List.any_map]; rfl
theorem putKD_enc (g : α → D) (f : List (Key × α)) (k : Key) (v : α) : putKD (encF g f) k (g v) = encF g (putL f k v) := by
  unfold putKD putL
  rw [any_enc]
  split
  · unfold encF
    rw [List.map_map, List.map_map]
    apply List.map_congr_left
    intro e _
    simp only [Function.comp]
    split <;> rfl
  · unfold encF; rw [List.map_append]; rfl
theorem any_keys {f : List (Key × α)} {k : Key} : (f.any fun e => decide (e.1 = k)) = true ↔ k ∈ f.map (·.1) := by
  rw [List.any_eq_true, List.mem_map]
  constructor
  · rintro ⟨e, h1, h2⟩; exact ⟨e, h1, of_decide_eq_true h2⟩
  · rintro ⟨e, h1, h2⟩; exact ⟨e, h1, decide_eq_true h2⟩
theorem valL_none {k : Key} : ∀ {f : List (Key × α)}, valL f k = none ↔ k ∉ f.map (·.1)
  | [] => by simp [valL_nil]
  | e :: f => by
    rw [valL_cons, List.map_cons, List.mem_cons, not_or]
    by_cases h : e.1 = k
    · simp [h]
    · rw [if_neg h, valL_none]; exact ⟨fun z => ⟨fun y => h y.symm, z⟩, fun z => z.2⟩
theorem valL_some {f : List (Key × α)} {k : Key} (h : k ∈ f.map (·.1)) : ∃ v, valL f k = some v := by
  cases z : valL f k with
  | some v => exact ⟨v, rfl⟩
  | none => exact absurd h (valL_none.mp z)
theorem valL_key {f : List (Key × α)} {k : Key} {v : α} (h : valL f k = some v) : k ∈ f.map (·.1) := by
  by_cases z : k ∈ f.map (·.1)
  · exact z
  · rw [valL_none.mpr z] at h; cases h
theorem valL_mem {k : Key} {v : α} : ∀ {f : List (Key × α)}, valL f k = some v → (k, v) ∈ f
  | [], h => by cases h
  | e :: f, h => by
    rw [valL_cons] at h
    by_cases z : e.1 = k
    · rw [if_pos z] at h; cases h; subst z; exact List.mem_cons_self
    · rw [if_neg z] at h; exact List.mem_cons_of_mem _ (valL_mem h)
theorem valL_app {k : Key} : ∀ {f g : List (Key × α)}, valL (f ++ g) k = (valL f k).or (valL g k)
  | [], g => by simp [valL_nil]
  | e :: f, g => by
    rw [List.cons_append, valL_cons, valL_cons]
    by_cases z : e.1 = k
    · simp [z]
    · simp only [z, if_false]; exact valL_app
theorem valL_putM {k k' : Key} {v : α} : ∀ {f : List (Key × α)}, valL (f.map fun e => if e.1 = k then (e.1, v) else e) k' = if k' = k then (valL f k').map (fun _ => v) else valL f k'
  | [] => by simp [valL_nil]
  | e :: f => by
    rw [List.map_cons, valL_cons, valL_cons, valL_putM]
    by_cases z : e.1 = k
    · rw [if_pos z]
      simp only
      by_cases y : e.1 = k'
      · have : k' = k := y.symm.trans z
        simp [y, this]
      · simp only [y, if_false]
    · rw [if_neg z]
      by_cases y : e.1 = k'
      · have : k' ≠ k := fun h => z (y.trans h)
        simp [y, this]
      · simp only [y, if_false]
theorem valL_put {k k' : Key} {v : α} {f : List (Key × α)} : valL (putL f k v) k' = if k' = k then some v else valL f k' := by
  unfold putL
  split
  · rename_i h
    rw [valL_putM]
    split
    · rename_i e; subst e
      obtain ⟨u, hu⟩ := valL_some (any_keys.mp h)
      rw [hu]; rfl
    · rfl
  · rename_i h
    rw [valL_app, valL_cons, valL_nil]
    by_cases e : k' = k
    · subst e
      have : valL f k' = none := valL_none.mpr fun z => h (any_keys.mpr z)
      simp [this]
    · have : ¬ k = k' := fun z => e z.symm
      simp [e, this]
theorem keys_put {k : Key} {v : α} {f : List (Key × α)} : (putL f k v).map (·.1) = if k ∈ f.map (·.1) then f.map (·.1) else f.map (·.1) ++ [k] := by
  unfold putL
  by_cases h : (f.any fun e => decide (e.1 = k)) = true
  · rw [if_pos h, if_pos (any_keys.mp h), List.map_map]
    apply List.map_congr_left
    intro e _
    simp only [Function.comp]
    split <;> rfl
  · rw [if_neg h, if_neg fun z => h (any_keys.mpr z), List.map_append]; rfl
def putAll (f : List (Key × α)) (ks : List Key) (v : α) : List (Key × α) := ks.foldl (fun f k => putL f k v) f
theorem putAll_snoc {f : List (Key × α)} {ks : List Key} {k : Key} {v : α} : putAll f (ks ++ [k]) v = putL (putAll f ks v) k v := by unfold putAll; rw [List.foldl_append]; rfl
theorem valL_putAll {k' : Key} {v : α} : ∀ {ks : List Key} {f : List (Key × α)}, valL (putAll f ks v) k' = if k' ∈ ks then some v else valL f k'
  | [], f => by simp [putAll]
  | k :: ks, f => by
    show valL (putAll (putL f k v) ks v) k' = _
    rw [valL_putAll, valL_put]
    by_cases h : k' ∈ ks
    · simp [h]
    · by_cases e : k' = k <;> simp [h, e]
theorem keys_putAll {v : α} : ∀ {ks : List Key} {f : List (Key × α)}, (∀ k ∈ ks, k ∈ f.map (·.1)) → (putAll f ks v).map (·.1) = f.map (·.1)
  | [], _, _ => rfl
  | k :: ks, f, h => by
    have e : (putL f k v).map (·.1) = f.map (·.1) := by rw [keys_put, if_pos (h k List.mem_cons_self)]
    show (putAll (putL f k v) ks v).map (·.1) = _
    rw [keys_putAll fun k' hk => by rw [e]; exact h k' (List.mem_cons_of_mem _ hk), e]
end
/-! ### 42. What is tied to what -/
inductive Conn (E : List (Key × Key)) : Key → Key → Prop where
  | rfl {a} : Conn E a a
  | edge {a b} : (a, b) ∈ E → Conn E a b
  | symm {a b} : Conn E a b → Conn E b a
  | trans {a b c} : Conn E a b → Conn E b c → Conn E a c
namespace Conn
variable {E E' : List (Key × Key)} {a b k t : Key}
theorem mono (h : ∀ e ∈ E, e ∈ E') (c : Conn E k t) : Conn E' k t := by
  induction c with
  | rfl => exact .rfl
  | edge z => exact .edge (h _ z)
  | symm _ ih => exact .symm ih
  | trans _ _ i1 i2 => exact .trans i1 i2
theorem only (h : ∀ x y, (x, y) ∈ E → Conn E' x y) (c : Conn E k t) : Conn E' k t := by
  induction c with
  | rfl => exact .rfl
  | edge z => exact h _ _ z
  | symm _ ih => exact .symm ih
  | trans _ _ i1 i2 => exact .trans i1 i2
/-- one tie more -/
theorem more : Conn (E ++ [(a, b)]) k t ↔ Conn E k t ∨ (Conn E k a ∧ Conn E b t) ∨ (Conn E k b ∧ Conn E a t) := by
  constructor
  · intro c
    induction c with
    | rfl => exact .inl .rfl
    | edge z =>
      rcases List.mem_append.mp z with z | z
      · exact .inl (.edge z)
      · have := List.mem_singleton.mp z
        cases this
        exact .inr (.inl ⟨.rfl, .rfl⟩)
    | symm _ ih =>
      rcases ih with h | ⟨h1, h2⟩ | ⟨h1, h2⟩
      · exact .inl h.symm
      · exact .inr (.inr ⟨h2.symm, h1.symm⟩)
      · exact .inr (.inl ⟨h2.symm, h1.symm⟩)
    | trans _ _ i1 i2 =>
      rcases i1 with h | ⟨h1, h2⟩ | ⟨h1, h2⟩ <;> rcases i2 with g | ⟨g1, g2⟩ | ⟨g1, g2⟩
      · exact .inl (h.trans g)
      · exact .inr (.inl ⟨h.trans g1, g2⟩)
      · exact .inr (.inr ⟨h.trans g1, g2⟩)
      · exact .inr (.inl ⟨h1, h2.trans g⟩)
      · exact .inr (.inl ⟨h1, g2⟩)
      · exact .inl (h1.trans g2)
      · exact .inr (.inr ⟨h1, h2.trans g⟩)
      · exact .inl (h1.trans g2)
      · exact .inr (.inr ⟨h1, g2⟩)
  · have up : ∀ {x y}, Conn E x y → Conn (E ++ [(a, b)]) x y := fun c => c.mono fun e h => List.mem_append_left _ h
    have ab : Conn (E ++ [(a, b)]) a b := .edge (List.mem_append_right _ List.mem_cons_self)
    rintro (h | ⟨h1, h2⟩ | ⟨h1, h2⟩)
    · exact up h
    · exact ((up h1).trans ab).trans (up h2)
    · exact ((up h1).trans ab.symm).trans (up h2)
/-- who is tied to another one stands in a tie -/
theorem touched (c : Conn E k t) : k = t ∨ ((∃ x, (k, x) ∈ E ∨ (x, k) ∈ E) ∧ ∃ x, (t, x) ∈ E ∨ (x, t) ∈ E) := by
  induction c with
  | rfl => exact .inl (Eq.refl _)
  | edge z => exact .inr ⟨⟨_, .inl z⟩, _, .inr z⟩
  | symm _ ih =>
    rcases ih with h | ⟨h1, h2⟩
    · exact .inl h.symm
    · exact .inr ⟨h2, h1⟩
  | trans _ _ i1 i2 =>
    rcases i1 with rfl | ⟨h1, h2⟩
    · exact i2
    · rcases i2 with rfl | ⟨h3, h4⟩
      · exact .inr ⟨h1, h2⟩
      · exact .inr ⟨h1, h4⟩
end Conn
/-! ### 43. closed -/
structure Cls (m : Int) (E : List (Key × Key)) (f : List (Key × List Key)) : Prop where
  ks : (f.map (·.1)).Nodup
  key : ∀ k, k ∈ f.map (·.1) ↔ (∃ i, k = .inl i ∧ 0 ≤ i ∧ i < m) ∨ ∃ x, (x, k) ∈ E
  edg : ∀ x y, (x, y) ∈ E → x ∈ f.map (·.1)
  nd : ∀ k l, valL f k = some l → l.Nodup
  cn : ∀ k l, valL f k = some l → ∀ t, t ∈ l ↔ Conn E k t
namespace Cls
variable {m : Int} {E : List (Key × Key)} {f : List (Key × List Key)} {a b k t : Key} {l la lb : List Key}
theorem touch (c : Cls m E f) (h : ∃ x, (k, x) ∈ E ∨ (x, k) ∈ E) : k ∈ f.map (·.1) := by
  obtain ⟨x, h | h⟩ := h
  · exact c.edg _ _ h
  · exact (c.key k).mpr (.inr ⟨x, h⟩)
theorem sub (c : Cls m E f) (h : valL f k = some l) : ∀ t ∈ l, t ∈ f.map (·.1) := fun t ht => by
  rcases ((c.cn k l h t).mp ht).touched with e | ⟨_, z⟩
  · rw [← e]; exact valL_key h
  · exact c.touch z
theorem self (c : Cls m E f) (h : valL f k = some l) : k ∈ l := (c.cn k l h k).mpr .rfl
end Cls
theorem nodup_len {α : Type} [DecidableEq α] : ∀ {l f : List α}, l.Nodup → (∀ t ∈ l, t ∈ f) → l.length ≤ f.length
  | [], _, _, _ => Nat.zero_le _
  | x :: l, f, h, s => by
    rw [List.nodup_cons] at h
    have hx := s x List.mem_cons_self
    have := nodup_len (l := l) (f := f.erase x) h.2 fun t ht => (List.mem_erase_of_ne fun e => h.1 (by rw [← e]; exact ht)).mpr (s t (List.mem_cons_of_mem _ ht))
    rw [List.length_erase_of_mem hx] at this
    have := List.length_pos_of_mem hx
    simp only [List.length_cons]; omega
def sdf (f : List (Key × List Key)) (b : Key) : List (Key × List Key) := match valL f b with
  | some _ => f
  | none => putL f b [b]
def stepC (f : List (Key × List Key)) (a b : Key) : List (Key × List Key) := match valL (sdf f b) a, valL (sdf f b) b with
  | some la, some lb => if b ∈ la then sdf f b else putAll (sdf f b) (la ++ lb) (la ++ lb)
  | _, _ => sdf f b
theorem valL_sdf {f : List (Key × List Key)} {b k : Key} : valL (sdf f b) k = if k = b ∧ valL f b = none then some [b] else valL f k := by
  unfold sdf
  cases h : valL f b with
  | some v => simp
  | none => 
    simp only [valL_put, and_true]
theorem keys_sdf {f : List (Key × List Key)} {b : Key} : (sdf f b).map (·.1) = if b ∈ f.map (·.1) then f.map (·.1) else f.map (·.1) ++ [b] := by
  unfold sdf
  cases h : valL f b with
  | some v => simp only; rw [if_pos (valL_key h)]
  | none => simp only; rw [keys_put]
namespace Cls
variable {m : Int} {E : List (Key × Key)} {f : List (Key × List Key)} {a b k t : Key} {l la lb : List Key}
/-- the things with a further one (a name), tied to nothing yet -/
theorem sdf_cn (c : Cls m E f) : ((sdf f b).map (·.1)).Nodup ∧ (∀ k, k ∈ (sdf f b).map (·.1) ↔ k ∈ f.map (·.1) ∨ k = b) ∧ (∀ k l, valL (sdf f b) k = some l → l.Nodup ∧ ∀ t, t ∈ l ↔ Conn E k t) := by
  refine ⟨?_, fun k => ?_, fun k l h => ?_⟩
  · rw [keys_sdf]
    split
    · exact c.ks
    · rename_i h
      rw [List.nodup_append]
      exact ⟨c.ks, by simp, fun x hx y hy e => h (by rw [List.mem_singleton] at hy; rw [← hy, ← e]; exact hx)⟩
  · rw [keys_sdf]
    split
    · rename_i h
      exact ⟨.inl, fun z => z.elim id fun e => by rw [e]; exact h⟩
    · simp
  · rw [valL_sdf] at h
    split at h
    · rename_i z
      obtain ⟨rfl, z⟩ := z
      cases h
      refine ⟨by simp, fun t => ?_⟩
      rw [List.mem_singleton]
      constructor
      · rintro rfl; exact .rfl
      · intro q
        rcases q.touched with e | ⟨e, _⟩
        · exact e.symm
        · exact absurd (c.touch e) (valL_none.mp z)
    · exact ⟨c.nd _ _ h, c.cn _ _ h⟩
theorem step (c : Cls m E f) (ha : a ∈ f.map (·.1)) : Cls m (E ++ [(a, b)]) (stepC f a b) ∧ ∃ la lb, valL (sdf f b) a = some la ∧ valL (sdf f b) b = some lb ∧ la.length ≤ f.length + 1 ∧ lb.length ≤ f.length + 1 ∧ (∀ t ∈ la, t ∈ f.map (·.1) ∨ t = b) ∧ (∀ t ∈ lb, t ∈ f.map (·.1) ∨ t = b) := by
  obtain ⟨s1, s2, s3⟩ := c.sdf_cn (b := b)
  obtain ⟨la, h1⟩ := valL_some ((s2 a).mpr (.inl ha))
  obtain ⟨lb, h2⟩ := valL_some ((s2 b).mpr (.inr rfl))
  have ka := s3 _ _ h1
  have kb := s3 _ _ h2
  have tch : ∀ {k l}, valL (sdf f b) k = some l → ∀ t ∈ l, t ∈ (sdf f b).map (·.1) := fun {k l} h t ht => by
    rcases (((s3 k l h).2 t).mp ht).touched with e | ⟨_, z⟩
    · rw [← e]; exact valL_key h
    · exact (s2 t).mpr (.inl (c.touch z))
  have ln : ((sdf f b).map (·.1)).length ≤ f.length + 1 := by rw [keys_sdf]; split <;> simp
  refine ⟨?_, la, lb, h1, h2, Nat.le_trans (nodup_len ka.1 (tch h1)) ln, Nat.le_trans (nodup_len kb.1 (tch h2)) ln, fun t ht => (s2 t).mp (tch h1 t ht), fun t ht => (s2 t).mp (tch h2 t ht)⟩
  have kys : ∀ g : List (Key × List Key), g.map (·.1) = (sdf f b).map (·.1) → (g.map (·.1)).Nodup ∧ (∀ k, k ∈ g.map (·.1) ↔ (∃ i, k = .inl i ∧ 0 ≤ i ∧ i < m) ∨ ∃ x, (x, k) ∈ E ++ [(a, b)]) ∧ ∀ x y, (x, y) ∈ E ++ [(a, b)] → x ∈ g.map (·.1) := fun g e => by
    rw [e]
    refine ⟨s1, fun k => ?_, fun x y h => ?_⟩
    · rw [s2, c.key]
      constructor
      · rintro ((h | ⟨x, h⟩) | rfl)
        · exact .inl h
        · exact .inr ⟨x, List.mem_append_left _ h⟩
        · exact .inr ⟨a, by simp⟩
      · rintro (h | ⟨x, h⟩)
        · exact .inl (.inl h)
        · rcases List.mem_append.mp h with h | h
          · exact .inl (.inr ⟨x, h⟩)
          · have := List.mem_singleton.mp h; cases this; exact .inr rfl
    · rcases List.mem_append.mp h with h | h
      · exact (s2 x).mpr (.inl (c.edg _ _ h))
      · have := List.mem_singleton.mp h; cases this; exact (s2 _).mpr (.inl ha)
  unfold stepC
  rw [h1, h2]
  simp only
  by_cases hb : b ∈ la
  · rw [if_pos hb]
    obtain ⟨q1, q2, q3⟩ := kys (sdf f b) rfl
    have ab : Conn E a b := (ka.2 b).mp hb
    refine ⟨q1, q2, q3, fun k l h => (s3 k l h).1, fun k l h t => ?_⟩
    rw [(s3 k l h).2, Conn.more]
    constructor
    · exact .inl
    · rintro (h | ⟨g1, g2⟩ | ⟨g1, g2⟩)
      · exact h
      · exact (g1.trans ab).trans g2
      · exact (g1.trans ab.symm).trans g2
  · rw [if_neg hb]
    have nab : ¬ Conn E a b := fun z => hb ((ka.2 b).mpr z)
    have sub : ∀ t ∈ la ++ lb, t ∈ (sdf f b).map (·.1) := fun t ht => (List.mem_append.mp ht).elim (tch h1 t) (tch h2 t)
    obtain ⟨q1, q2, q3⟩ := kys (putAll (sdf f b) (la ++ lb) (la ++ lb)) (keys_putAll sub)
    refine ⟨q1, q2, q3, fun k l h => ?_, fun k l h t => ?_⟩
    · rw [valL_putAll] at h
      split at h
      · cases h
        rw [List.nodup_append]
        exact ⟨ka.1, kb.1, fun x hx y hy e => nab (by subst e; exact ((ka.2 _).mp hx).trans ((kb.2 _).mp hy).symm)⟩
      · exact (s3 k l h).1
    · rw [valL_putAll] at h
      rw [Conn.more]
      split at h
      · rename_i hk
        cases h
        rw [List.mem_append, ka.2, kb.2]
        rcases List.mem_append.mp hk with hk | hk
        · have z := (ka.2 k).mp hk
          constructor
          · rintro (y | y)
            · exact .inl (z.symm.trans y)
            · exact .inr (.inl ⟨z.symm, y⟩)
          · rintro (y | ⟨g1, g2⟩ | ⟨g1, g2⟩)
            · exact .inl (z.trans y)
            · exact .inr g2
            · exact .inl g2
        · have z := (kb.2 k).mp hk
          constructor
          · rintro (y | y)
            · exact .inr (.inr ⟨z.symm, y⟩)
            · exact .inl (z.symm.trans y)
          · rintro (y | ⟨g1, g2⟩ | ⟨g1, g2⟩)
            · exact .inr (z.trans y)
            · exact .inr g2
            · exact .inl g2
      · rename_i hk
        rw [(s3 k l h).2]
        have n1 : ¬ Conn E k a := fun z => hk (List.mem_append_left _ ((ka.2 k).mpr z.symm))
        have n2 : ¬ Conn E k b := fun z => hk (List.mem_append_right _ ((kb.2 k).mpr z.symm))
        constructor
        · exact .inl
        · rintro (y | ⟨g1, g2⟩ | ⟨g1, g2⟩)
          · exact y
          · exact absurd g1 n1
          · exact absurd g1 n2
end Cls
def start (m : Nat) : List (Key × List Key) := (List.range m).map fun i : Nat => (.inl (i : Int), [.inl (i : Int)])
theorem valL_start {m : Nat} {k : Key} {l : List Key} (h : valL (start m) k = some l) : l = [k] ∧ ∃ i : Nat, i < m ∧ k = .inl i := by
  have := valL_mem h
  unfold start at this
  obtain ⟨i, h1, h2⟩ := List.mem_map.mp this
  cases h2
  exact ⟨rfl, i, List.mem_range.mp h1, rfl⟩
theorem conn_nil {k t : Key} (c : Conn [] k t) : k = t := by
  rcases c.touched with h | ⟨⟨x, h | h⟩, _⟩
  · exact h
  · cases h
  · cases h
theorem cls_start (m : Nat) : Cls m [] (start m) := by
  refine ⟨?_, fun k => ?_, fun x y h => (nomatch h), fun k l h => ?_, fun k l h t => ?_⟩
  · unfold start
    rw [List.map_map]
    have e : ((fun x : Key × List Key => x.1) ∘ fun i : Nat => ((.inl (i : Int) : Key), [(.inl (i : Int) : Key)])) = fun i : Nat => (.inl (i : Int) : Key) := rfl
    rw [e, List.Nodup, List.pairwise_map]
    exact List.nodup_range.imp fun h z => h (by cases z; rfl)
  · unfold start
    simp only [List.map_map, List.mem_map, List.mem_range, Function.comp]
    constructor
    · rintro ⟨i, h, rfl⟩; exact .inl ⟨i, rfl, by omega, by omega⟩
    · rintro (⟨i, rfl, h1, h2⟩ | ⟨x, h⟩)
      · exact ⟨i.toNat, by omega, by rw [Int.toNat_of_nonneg h1]⟩
      · cases h
  · rw [(valL_start h).1]; simp
  · rw [(valL_start h).1, List.mem_singleton]
    exact ⟨fun e => by rw [e]; exact .rfl, fun c => (conn_nil c).symm⟩
/-! ### 44. Sayings -/
inductive Say where
  | nob (i : Int) | isn (i : Int) (s : List Nat) | sam (i j : Int) | apa (i j : Int)
def Say.d : Say → D
  | .nob i => .tup [.str "nobody", .int i]
  | .isn i s => .tup [.str "is", .int i, .str (tx s)]
  | .sam i j => .tup [.str "same", .int i, .int j]
  | .apa i j => .tup [.str "apart", .int i, .int j]
def Say.ok (m : Int) : Say → Prop
  | .nob i => 0 ≤ i ∧ i < m
  | .isn i s => 0 ≤ i ∧ i < m ∧ NameL s
  | .sam i j => 0 ≤ i ∧ i < m ∧ 0 ≤ j ∧ j < m ∧ i ≠ j
  | .apa i j => 0 ≤ i ∧ i < m ∧ 0 ≤ j ∧ j < m ∧ i ≠ j
def Say.tie : Say → List (Key × Key)
  | .isn i s => [(.inl i, .inr (tx s))]
  | .sam i j => [(.inl i, .inl j)]
  | _ => []
def ties (says : List Say) : List (Key × Key) := says.flatMap Say.tie
def stepS (f : List (Key × List Key)) : Say → List (Key × List Key)
  | .isn i s => stepC f (.inl i) (.inr (tx s))
  | .sam i j => stepC f (.inl i) (.inl j)
  | _ => f
def closedL (m : Nat) (says : List Say) : List (Key × List Key) := says.foldl stepS (start m)
theorem stepC_len {f : List (Key × List Key)} {m : Int} {E : List (Key × Key)} {a b : Key} (c : Cls m E f) (ha : a ∈ f.map (·.1)) : (stepC f a b).length ≤ f.length + 1 := by
  obtain ⟨d, la, lb, h1, h2, _⟩ := c.step (b := b) ha
  obtain ⟨s1, s2, s3⟩ := c.sdf_cn (b := b)
  have ln : ((sdf f b).map (·.1)).length ≤ f.length + 1 := by rw [keys_sdf]; split <;> simp
  have e : (stepC f a b).length = ((stepC f a b).map (·.1)).length := by simp
  rw [e]
  refine Nat.le_trans (nodup_len d.ks fun t ht => ?_) ln
  rw [s2, c.key]
  rcases (d.key t).mp ht with h | ⟨x, h⟩
  · exact .inl (.inl h)
  · rcases List.mem_append.mp h with h | h
    · exact .inl (.inr ⟨x, h⟩)
    · have := List.mem_singleton.mp h; cases this; exact .inr rfl
theorem Cls.pic {m : Int} {E : List (Key × Key)} {f : List (Key × List Key)} (c : Cls m E f) {i : Int} (h0 : 0 ≤ i) (h1 : i < m) : (.inl i : Key) ∈ f.map (·.1) := (c.key _).mpr (.inl ⟨i, rfl, h0, h1⟩)
theorem cls_stepS {m : Int} {E : List (Key × Key)} {f : List (Key × List Key)} (c : Cls m E f) {s : Say} (h : s.ok m) : Cls m (E ++ s.tie) (stepS f s) ∧ (stepS f s).length ≤ f.length + 1 := by
  cases s with
  | nob i => simp only [Say.tie, List.append_nil, stepS]; exact ⟨c, by omega⟩
  | apa i j => simp only [Say.tie, List.append_nil, stepS]; exact ⟨c, by omega⟩
  | isn i s => exact ⟨(c.step (c.pic h.1 h.2.1)).1, stepC_len c (c.pic h.1 h.2.1)⟩
  | sam i j => exact ⟨(c.step (c.pic h.1 h.2.1)).1, stepC_len c (c.pic h.1 h.2.1)⟩
theorem cls_fold {m : Int} : ∀ {says : List Say} {E : List (Key × Key)} {f : List (Key × List Key)}, Cls m E f → (∀ s ∈ says, s.ok m) → Cls m (E ++ ties says) (says.foldl stepS f) ∧ (says.foldl stepS f).length ≤ f.length + says.length
  | [], E, f, c, _ => by simp only [ties, List.flatMap_nil, List.append_nil, List.foldl_nil]; exact ⟨c, by simp⟩
  | s :: says, E, f, c, h => by
    obtain ⟨c1, l1⟩ := cls_stepS c (h s List.mem_cons_self)
    obtain ⟨c2, l2⟩ := cls_fold c1 fun t ht => h t (List.mem_cons_of_mem _ ht)
    simp only [List.foldl_cons, ties, List.flatMap_cons, List.length_cons]
    rw [← List.append_assoc]
    exact ⟨c2, by omega⟩
theorem start_len {m : Nat} : (start m).length = m := by simp [start]
theorem cls_closed {m : Nat} {says : List Say} (h : ∀ s ∈ says, s.ok m) : Cls m (ties says) (closedL m says) ∧ (closedL m says).length ≤ m + says.length := by
  have z := cls_fold (cls_start m) h
  rw [List.nil_append, start_len] at z
  exact z
theorem foldl_take {α β : Type} (g : β → α → β) (l : List α) (b : β) {j : Nat} {x : α} (h : l[j]? = some x) : (l.take (j + 1)).foldl g b = g ((l.take j).foldl g b) x := by
  rw [take_more h, List.foldl_append]; rfl
end L3
namespace L3
open PySem PySem.Spec PyProof.Rows L2
/-! ### 45. Leaves of dicts -/
abbrev lK (l : List Key) : D := .lst (l.map kD)
def kOk : Key → Prop
  | .inl _ => True
  | .inr s => PyData.strOk s = true
theorem kOk_ok {k : Key} (h : kOk k) : ∀ n, D.ok (n + 1) (kD k) = true := fun n => by
  cases k with
  | inl i => exact ok_int
  | inr s => exact ok_str h
theorem kOk_oks : ∀ {l : List Key}, (∀ t ∈ l, kOk t) → D.oks 59 (l.map kD) = true
  | [], _ => oks_nil
  | k :: l, h => oks_cons (kOk_ok (h k List.mem_cons_self) 58) (kOk_oks fun t ht => h t (List.mem_cons_of_mem _ ht))
theorem eq_kk {a b : Key} : D.eq (kD a) (kD b) = decide (a = b) := by
  cases a <;> cases b
  · show D.eq (.int _) (.int _) = _; rw [eq_ii]; simp
  · show D.eq (.int _) (.str _) = _; rw [eq_int_str]; simp
  · show D.eq (.str _) (.int _) = _; rw [eq_str_int]; simp
  · show D.eq (.str _) (.str _) = _; rw [eq_ss]; simp
theorem mem_kk {a : Key} : ∀ {l : List Key}, D.mem (kD a) (l.map kD) = decide (a ∈ l)
  | [] => by simp [D.mem]
  | b :: l => by
    have ih := mem_kk (a := a) (l := l)
    unfold D.mem at ih ⊢
    rw [List.map_cons, List.any_cons, ih, eq_kk]
    by_cases h : b = a
    · simp [h]
    · have : ¬ a = b := fun e => h e.symm
      by_cases z : a ∈ l <;> simp [h, this, z]
section
variable {α : Type} {g : α → D} {f : List (Key × α)} {v : α} {k b : Key} {M : Mm} {Q : D → Mm → Prop} {R : Mm → Prop} {p : Addr} {i : Int} {s : Str} {d x y z : D} {ds : List D} {l : List Key} {kvs : List (Key × D)} {fl : List (Key × List Key)}
theorem lf_iyL (h : pIx (.lst ds) y M Q) : pIy (.lst ds) y M Q := .inl h
theorem lf_iyT (h : pIx (.tup ds) y M Q) : pIy (.tup ds) y M Q := .inl h
theorem lf_iyS (h : pIx (.str s) y M Q) : pIy (.str s) y M Q := .inl h
theorem lf_iyP (m : M p = some (.l ds)) (h : pIx (.ptr p) y M Q) : pIy (.ptr p) y M Q := .inl h
theorem lf_iyPk (m : M p = some (.k (encF g f))) (e : valL f k = some v) (h : Q (g v) M) : pIy (.ptr p) (kD k) M Q := .inr ⟨_, k, _, m, rfl, by rw [valD_enc, e]; rfl, h⟩
theorem lf_iyPi (m : M p = some (.k (encF g f))) (e : valL f (.inl i) = some v) (h : Q (g v) M) : pIy (.ptr p) (.int i) M Q := lf_iyPk (k := .inl i) m e h
theorem lf_iyPs (m : M p = some (.k (encF g f))) (e : valL f (.inr s) = some v) (h : Q (g v) M) : pIy (.ptr p) (.str s) M Q := lf_iyPk (k := .inr s) m e h
theorem lf_iyDk (e : valL f k = some v) (h : Q (g v) M) : pIy (.dK (encF g f)) (kD k) M Q := .inr ⟨k, _, rfl, by rw [valD_enc, e]; rfl, h⟩
theorem lf_iyDi (e : valL f (.inl i) = some v) (h : Q (g v) M) : pIy (.dK (encF g f)) (.int i) M Q := lf_iyDk (k := .inl i) e h
theorem lf_iyDs (e : valL f (.inr s) = some v) (h : Q (g v) M) : pIy (.dK (encF g f)) (.str s) M Q := lf_iyDk (k := .inr s) e h
theorem lf_inKk (h1 : kOk k) (h2 : ∀ t ∈ l, kOk t) (h : Q (.bl (decide (k ∈ l))) M) : pIn false (kD k) (.lst (l.map kD)) M Q := lf_inL' (kOk_ok h1 59) (kOk_oks h2) mem_kk h
theorem lf_inKi (h2 : ∀ t ∈ l, kOk t) (h : Q (.bl (decide (.inl i ∈ l))) M) : pIn false (.int i) (.lst (l.map kD)) M Q := lf_inKk (k := .inl i) trivial h2 h
theorem lf_inKs (h1 : PyData.strOk s = true) (h2 : ∀ t ∈ l, kOk t) (h : Q (.bl (decide (.inr s ∈ l))) M) : pIn false (.str s) (.lst (l.map kD)) M Q := lf_inKk (k := .inr s) h1 h2 h
theorem lf_ninKk (h1 : kOk k) (h2 : ∀ t ∈ l, kOk t) (h : Q (.bl (!decide (k ∈ l))) M) : pIn true (kD k) (.lst (l.map kD)) M Q := lf_ninL' (kOk_ok h1 59) (kOk_oks h2) mem_kk h
theorem lf_ninKi (h2 : ∀ t ∈ l, kOk t) (h : Q (.bl (!decide (.inl i ∈ l))) M) : pIn true (.int i) (.lst (l.map kD)) M Q := lf_ninKk (k := .inl i) trivial h2 h
theorem lf_ninKs (h1 : PyData.strOk s = true) (h2 : ∀ t ∈ l, kOk t) (h : Q (.bl (!decide (.inr s ∈ l))) M) : pIn true (.str s) (.lst (l.map kD)) M Q := lf_ninKk (k := .inr s) h1 h2 h
/-! stores -/
theorem lf_sAl (m : M p = some (.l ds)) (h : pSet (.ptr p) y d M R) : pSetA (.ptr p) y d M R := .inl h
theorem lf_sAk (m : M p = some (.k (encF g f))) (e : d = g v) (hl : f.length < sizeLine) (h : R (M.put p (.k (encF g (putL f k v))))) : pSetA (.ptr p) (kD k) d M R := .inr ⟨p, _, k, rfl, rfl, m, by rw [encF_length]; exact hl, by subst e; rw [putKD_enc]; exact h⟩
theorem lf_sAi (m : M p = some (.k (encF g f))) (e : d = g v) (hl : f.length < sizeLine) (h : R (M.put p (.k (encF g (putL f (.inl i) v))))) : pSetA (.ptr p) (.int i) d M R := lf_sAk (k := .inl i) m e hl h
theorem lf_sAs (m : M p = some (.k (encF g f))) (e : d = g v) (hl : f.length < sizeLine) (h : R (M.put p (.k (encF g (putL f (.inr s) v))))) : pSetA (.ptr p) (.str s) d M R := lf_sAk (k := .inr s) m e hl h
/-! setdefault -/
theorem lf_sd1 {R : Addr → List (Key × D) → Prop} (m : M p = some (.k kvs)) (h : R p kvs) : ∃ q kvs0, D.ptr p = .ptr q ∧ M q = some (.k kvs0) ∧ R q kvs0 := ⟨p, kvs, rfl, m, h⟩
theorem lf_sdk (m : M p = some (.k (encF lK fl))) (e : z = lK [k]) (hl : fl.length < sizeLine) (h : ∀ d, Q d (M.put p (.k (encF lK (sdf fl k))))) : ∃ kvs k', M p = some (.k kvs) ∧ kD k = kD k' ∧ kvs.length < sizeLine ∧ (∀ d, valD kvs k' = some d → Q d M) ∧ (valD kvs k' = none → Q z (M.put p (.k (putKD kvs k' z)))) := by
  refine ⟨_, k, m, rfl, by rw [encF_length]; exact hl, fun d hd => ?_, fun hd => ?_⟩
  · have w := h d
    rw [valD_enc] at hd
    unfold sdf at w
    cases z : valL fl k with
    | none => rw [z] at hd; cases hd
    | some u => rw [z] at w; rw [Mm.put_id m] at w; exact w
  · have w := h z
    rw [valD_enc] at hd
    unfold sdf at w
    cases z' : valL fl k with
    | some u => rw [z'] at hd; cases hd
    | none => rw [z'] at w; subst e; rw [putKD_enc]; exact w
theorem lf_sdi (m : M p = some (.k (encF lK fl))) (e : z = lK [.inl i]) (hl : fl.length < sizeLine) (h : ∀ d, Q d (M.put p (.k (encF lK (sdf fl (.inl i)))))) : ∃ kvs k', M p = some (.k kvs) ∧ D.int i = kD k' ∧ kvs.length < sizeLine ∧ (∀ d, valD kvs k' = some d → Q d M) ∧ (valD kvs k' = none → Q z (M.put p (.k (putKD kvs k' z)))) := lf_sdk (k := .inl i) m e hl h
theorem lf_sds (m : M p = some (.k (encF lK fl))) (e : z = lK [.inr s]) (hl : fl.length < sizeLine) (h : ∀ d, Q d (M.put p (.k (encF lK (sdf fl (.inr s)))))) : ∃ kvs k', M p = some (.k kvs) ∧ D.str s = kD k' ∧ kvs.length < sizeLine ∧ (∀ d, valD kvs k' = some d → Q d M) ∧ (valD kvs k' = none → Q z (M.put p (.k (putKD kvs k' z)))) := lf_sdk (k := .inr s) m e hl h
end
theorem start_succ {j : Nat} : putL (start j) (.inl (j : Int)) [.inl (j : Int)] = start (j + 1) := by
  have h : ¬ ((start j).any fun e => decide (e.1 = .inl (j : Int))) = true := fun z => by
    have := any_keys.mp z
    rcases ((cls_start j).key _).mp this with ⟨i, e, _, h⟩ | ⟨x, h⟩
    · cases e; omega
    · cases h
  unfold putL
  rw [if_neg h]
  unfold start
  rw [List.range_succ, List.map_append]; rfl
theorem stepC_in {f : List (Key × List Key)} {a b : Key} {la lb : List Key} (h1 : valL (sdf f b) a = some la) (h2 : valL (sdf f b) b = some lb) (h : b ∈ la) : stepC f a b = sdf f b := by
  unfold stepC; rw [h1, h2]; simp only; rw [if_pos h]
theorem stepC_nin {f : List (Key × List Key)} {a b : Key} {la lb : List Key} (h1 : valL (sdf f b) a = some la) (h2 : valL (sdf f b) b = some lb) (h : ¬ b ∈ la) : stepC f a b = putAll (sdf f b) (la ++ lb) (la ++ lb) := by
  unfold stepC; rw [h1, h2]; simp only; rw [if_neg h]
theorem keys_kOk {m : Int} {says : List Say} {f : List (Key × List Key)} (c : Cls m (ties says) f) (h : ∀ s ∈ says, s.ok m) : ∀ k ∈ f.map (·.1), kOk k := fun k hk => by
  rcases (c.key k).mp hk with ⟨i, rfl, _⟩ | ⟨x, z⟩
  · trivial
  · obtain ⟨s, h1, h2⟩ := List.mem_flatMap.mp z
    cases s with
    | nob i => cases h2
    | apa i j => cases h2
    | sam i j => simp only [Say.tie, List.mem_singleton] at h2; cases h2; trivial
    | isn i l => simp only [Say.tie, List.mem_singleton] at h2; cases h2; exact nameL_ok (h _ h1).2.2
theorem sdf_len {f : List (Key × List Key)} {b : Key} : (sdf f b).length ≤ f.length + 1 := by
  have : ((sdf f b).map (·.1)).length ≤ f.length + 1 := by rw [keys_sdf]; split <;> simp
  simpa using this
theorem putAll_len {f : List (Key × List Key)} {ks : List Key} {v : List Key} (h : ∀ k ∈ ks, k ∈ f.map (·.1)) : (putAll f ks v).length = f.length := by
  have := congrArg List.length (keys_putAll (v := v) h)
  simpa using this
theorem Mm.put_del {M : Mm} {p : Addr} {c : Cell} (h : M p = none) : (M.put p c).del p = M := by
  funext a; unfold Mm.put Mm.del
  by_cases z : a = p
  · simp [z, h]
  · simp [z]
end L3
namespace L3
open PySem PySem.Spec PyProof.Rows L2
/-! ### 46. Albums -/
/-- a list as a dict by places -/
def idxA {α : Type} : Nat → List α → List (Key × α)
  | _, [] => []
  | n, x :: l => (.inl (n : Int), x) :: idxA (n + 1) l
section
variable {α : Type}
theorem idxA_length : ∀ {n : Nat} {l : List α}, (idxA n l).length = l.length
  | _, [] => rfl
  | n, _ :: l => congrArg (· + 1) (idxA_length (n := n + 1) (l := l))
theorem idxA_val : ∀ {l : List α} {n i : Nat}, valL (idxA n l) (.inl ((n + i : Nat) : Int)) = l[i]?
  | [], n, i => rfl
  | x :: l, n, 0 => by unfold idxA; rw [valL_cons]; simp
  | x :: l, n, i + 1 => by
    unfold idxA
    rw [valL_cons, if_neg (by simp; omega)]
    have := idxA_val (l := l) (n := n + 1) (i := i)
    rw [show n + (i + 1) = n + 1 + i by omega, this]; rfl
theorem idxA_any : ∀ {l : List α} {n k : Nat}, n + l.length ≤ k → ((idxA n l).any fun e => decide (e.1 = .inl (k : Int))) = false
  | [], _, _, _ => rfl
  | x :: l, n, k, h => by
    unfold idxA
    rw [List.any_cons, idxA_any (by simp at h; omega)]
    simp at h ⊢; omega
theorem idxA_app : ∀ {l : List α} {n : Nat} {v : α}, idxA n (l ++ [v]) = idxA n l ++ [(.inl ((n + l.length : Nat) : Int), v)]
  | [], n, v => by simp [idxA]
  | x :: l, n, v => by
    rw [List.cons_append]
    unfold idxA
    rw [idxA_app, List.cons_append]
    simp only [List.length_cons]
    rw [show n + 1 + l.length = n + (l.length + 1) by omega]
theorem idxA_put {l : List α} {v : α} {j : Nat} (h : l.length = j) : putL (idxA 0 l) (.inl (j : Int)) v = idxA 0 (l ++ [v]) := by
  unfold putL
  rw [idxA_any (by omega), if_neg Bool.false_ne_true, idxA_app, Nat.zero_add, h]
theorem idxA_get {l : List α} {i : Int} {v : α} (h0 : 0 ≤ i) (h : l[i.toNat]? = some v) : valL (idxA 0 l) (.inl i) = some v := by
  have z := idxA_val (l := l) (n := 0) (i := i.toNat)
  rw [Nat.zero_add, Int.toNat_of_nonneg h0] at z
  rw [z, h]
end
/-- the sayings of an album with m pictures -/
structure SaysOk (m : Nat) (says : List Say) : Prop where
  mm : m ≤ 24
  l : says.length ≤ 40
  ok : ∀ s ∈ says, s.ok m
structure Alb where
  many : Nat
  says : List Say
  leads : List Int
  names : List (List Str)
  sing : List Int
def lead (a : Alb) (i : Int) : Int := a.leads.getD i.toNat 0
def barsOf (ld : Int → Int) (says : List Say) : List (Int × Int) := says.flatMap fun s => match s with
  | .apa i j => [(ld i, ld j), (ld j, ld i)]
  | _ => []
abbrev lS (l : List Str) : D := .lst (l.map .str)
abbrev pD (p : Int × Int) : D := .tup [.int p.1, .int p.2]
abbrev albF (a : Alb) : List (Str × D) := [("own_many", .int a.many), ("own_sayings", .lst (a.says.map Say.d)), ("own_ties", .dK (encF lK (closedL a.many a.says))), ("own_leaders", .dK (encF D.int (idxA 0 a.leads))), ("own_names", .dK (encF lS (idxA 0 a.names))), ("own_single", .lst (a.sing.map .int)), ("own_bars", .lst ((barsOf (lead a) a.says).map pD))]
structure IsLead (m : Nat) (E : List (Key × Key)) (i l : Int) : Prop where
  lo : 0 ≤ l
  hi : l < m
  cn : Conn E (.inl i) (.inl l)
  le : ∀ j, Conn E (.inl i) (.inl j) → l ≤ j
structure IsNames (E : List (Key × Key)) (i : Int) (ns : List Str) : Prop where
  so : strsS ns = true
  nd : ns.Nodup
  cn : ∀ s, s ∈ ns ↔ Conn E (.inl i) (.inr s)
structure AlbOk (a : Alb) : Prop where
  s : SaysOk a.many a.says
  ll : a.leads.length = a.many
  ld : ∀ (i : Nat) (l : Int), a.leads[i]? = some l → IsLead a.many (ties a.says) i l
  nl : a.names.length = a.many
  nm : ∀ (i : Nat) (l : List Str), a.names[i]? = some l → IsNames (ties a.says) i l
  si : a.sing.Pairwise (· < ·)
  sm : ∀ k, k ∈ a.sing ↔ ∃ i, Say.nob i ∈ a.says ∧ lead a i = k
/-- the pictures, the names of a class -/
def picsK (l : List Key) : List Int := l.filterMap fun k => match k with
  | .inl i => some i
  | .inr _ => none
def namsK (l : List Key) : List Str := l.filterMap fun k => match k with
  | .inl _ => none
  | .inr s => some s
theorem mem_pics {l : List Key} {i : Int} : i ∈ picsK l ↔ .inl i ∈ l := by
  unfold picsK
  rw [List.mem_filterMap]
  constructor
  · rintro ⟨k, h1, h2⟩
    cases k with
    | inl j => simp at h2; subst h2; exact h1
    | inr s => simp at h2
  · intro h; exact ⟨_, h, rfl⟩
theorem mem_nams {l : List Key} {s : Str} : s ∈ namsK l ↔ .inr s ∈ l := by
  unfold namsK
  rw [List.mem_filterMap]
  constructor
  · rintro ⟨k, h1, h2⟩
    cases k with
    | inr j => simp at h2; subst h2; exact h1
    | inl s => simp at h2
  · intro h; exact ⟨_, h, rfl⟩
def isS : Key → Bool
  | .inl _ => false
  | .inr _ => true
theorem filter_pics : ∀ {l : List Key}, (l.filter fun k => !isS k).map kD = (picsK l).map .int
  | [] => rfl
  | .inl i :: l => by
    have e : (Sum.inl i :: l : List Key).filter (fun k => !isS k) = .inl i :: l.filter (fun k => !isS k) := rfl
    rw [e, List.map_cons, filter_pics]; rfl
  | .inr s :: l => by
    have e : (Sum.inr s :: l : List Key).filter (fun k => !isS k) = l.filter (fun k => !isS k) := rfl
    rw [e, filter_pics]; rfl
theorem filter_nams : ∀ {l : List Key}, (l.filter isS).map kD = (namsK l).map .str
  | [] => rfl
  | .inr i :: l => by
    have e : (Sum.inr i :: l : List Key).filter isS = .inr i :: l.filter isS := rfl
    rw [e, List.map_cons, filter_nams]; rfl
  | .inl s :: l => by
    have e : (Sum.inl s :: l : List Key).filter isS = l.filter isS := rfl
    rw [e, filter_nams]; rfl
theorem nams_nodup : ∀ {l : List Key}, l.Nodup → (namsK l).Nodup
  | [], _ => List.nodup_nil
  | .inl i :: l, h => by
    have e : namsK (.inl i :: l) = namsK l := rfl
    rw [e]; exact nams_nodup (List.nodup_cons.mp h).2
  | .inr s :: l, h => by
    have e : namsK (.inr s :: l) = s :: namsK l := rfl
    rw [e, List.nodup_cons, mem_nams]
    exact ⟨(List.nodup_cons.mp h).1, nams_nodup (List.nodup_cons.mp h).2⟩
theorem nams_len {l : List Key} : (namsK l).length ≤ l.length := List.length_filterMap_le ..
section
variable {m : Nat} {says : List Say} {i : Int} {l : List Key}
theorem lead_of (ok : SaysOk m says) (h0 : 0 ≤ i) (h1 : i < m) (hl : valL (closedL m says) (.inl i) = some l) {x : Int} (h : x ∈ picsK l) (hle : ∀ y ∈ picsK l, x ≤ y) : IsLead m (ties says) i x := by
  obtain ⟨c, _⟩ := cls_closed ok.ok
  have cn := c.cn _ _ hl
  have hx := (cn _).mp (mem_pics.mp h)
  have hk := c.sub hl _ (mem_pics.mp h)
  have hr : 0 ≤ x ∧ x < m := by
    rcases (c.key _).mp hk with ⟨j, e, h1, h2⟩ | ⟨y, hy⟩
    · cases e; exact ⟨h1, h2⟩
    · obtain ⟨s, h1, h2⟩ := List.mem_flatMap.mp hy
      have := ok.ok s h1
      cases s with
      | nob i => cases h2
      | apa i j => cases h2
      | isn i l => simp [Say.tie] at h2
      | sam i j => simp only [Say.tie, List.mem_singleton] at h2; cases h2; exact ⟨this.2.2.1, this.2.2.2.1⟩
  exact ⟨hr.1, hr.2, hx, fun j hj => hle j (mem_pics.mpr ((cn _).mpr hj))⟩
theorem names_of (ok : SaysOk m says) (hl : valL (closedL m says) (.inl i) = some l) {ns : List Str} (p : ns.Perm (namsK l)) (so : strsS ns = true) : IsNames (ties says) i ns := by
  obtain ⟨c, _⟩ := cls_closed ok.ok
  exact ⟨so, p.nodup_iff.mpr (nams_nodup (c.nd _ _ hl)), fun s => by rw [p.mem_iff, mem_nams]; exact c.cn _ _ hl _⟩
theorem cls_get (ok : SaysOk m says) (h0 : 0 ≤ i) (h1 : i < m) : ∃ l, valL (closedL m says) (.inl i) = some l ∧ .inl i ∈ l ∧ l.length ≤ 64 ∧ ∀ t ∈ l, kOk t := by
  obtain ⟨c, hl⟩ := cls_closed ok.ok
  obtain ⟨l, h⟩ := valL_some (c.pic h0 h1)
  have := nodup_len (c.nd _ _ h) (c.sub h)
  rw [List.length_map] at this
  have := ok.mm
  have := ok.l
  exact ⟨l, h, c.self h, by omega, fun t ht => keys_kOk c ok.ok t (c.sub h t ht)⟩
end
theorem lf_isi2 {x : D} {M : Mm} {Q : D → Mm → Prop} {T c e : String} {b1 b2 : Bool} (h1 : x.tyName M = some T) (h2 : kitB T c = some b1) (h3 : kitB T e = some b2) (h : Q (.bl (b1 || b2)) M) : pIsi [x, .tup [.ty c, .ty e]] M Q := ⟨T, _, [c, e], rfl, h1, by unfold isaL; rw [h2]; cases b1 <;> simp only [Bool.true_or, Bool.false_or]; unfold isaL; rw [h3]; cases b2 <;> simp [isaL], h⟩
theorem lf_exL {ds : List D} {R : List D → Prop} (h : R ds) : ∃ xs, D.lst ds = .lst xs ∧ R xs := ⟨ds, rfl, h⟩
theorem enum_get {says : List Say} {j : Nat} {d : D} (hd : (enumD 0 (says.map Say.d))[j]? = some d) : ∃ s, says[j]? = some s ∧ d = .tup [.int (j : Int), s.d] := by
  cases z : says[j]? with
  | none =>
    have := List.getElem?_eq_none_iff.mp z
    rw [List.getElem?_eq_none_iff.mpr (by rw [enumD_length, List.length_map]; exact this)] at hd; cases hd
  | some s => exact ⟨s, rfl, by
      have := enumD_get (n := 0) (ds := says.map Say.d) (i := j) (d := s.d) (by rw [List.getElem?_map, z]; rfl)
      rw [this, Nat.zero_add] at hd; cases hd; rfl⟩
theorem ne_ai : ¬ (("apart" : Str) = "is") := by decide +kernel
theorem ne_si : ¬ (("same" : Str) = "is") := by decide +kernel
theorem say_sm {s : Say} {m : Int} (h : s.ok m) (hm : m ≤ 24) : D.sm 8 s.d = true ∧ isSay s.d = true := by
  cases s with
  | nob i =>
    obtain ⟨h0, h1⟩ := h
    exact ⟨sm_tup (by simp) (sms_cons (sm_str (by decide +kernel) (by decide +kernel)) (sms_cons sm_int sms_nil)), by
      simp [isSay, Say.d, isNum, h0, show i ≤ 23 by omega]⟩
  | isn i l =>
    obtain ⟨h0, h1, h2⟩ := h
    have hs := h2.small
    exact ⟨sm_tup (by simp) (sms_cons (sm_str (by decide +kernel) (by decide +kernel)) (sms_cons sm_int (sms_cons (sm_str (nameL_ok h2) (by rw [tx_l]; omega)) sms_nil))), by
      simp [isSay, Say.d, isNum, h0, show i ≤ 23 by omega, ne_is, isName_of h2]⟩
  | sam i j =>
    obtain ⟨h0, h1, h2, h3, h4⟩ := h
    exact ⟨sm_tup (by simp) (sms_cons (sm_str (by decide +kernel) (by decide +kernel)) (sms_cons sm_int (sms_cons sm_int sms_nil))), by
      simp [isSay, Say.d, isNum, h0, h2, show i ≤ 23 by omega, show j ≤ 23 by omega, ne_sn, ne_si, eq_ii, Ne.symm h4]⟩
  | apa i j =>
    obtain ⟨h0, h1, h2, h3, h4⟩ := h
    exact ⟨sm_tup (by simp) (sms_cons (sm_str (by decide +kernel) (by decide +kernel)) (sms_cons sm_int (sms_cons sm_int sms_nil))), by
      simp [isSay, Say.d, isNum, h0, h2, show i ≤ 23 by omega, show j ≤ 23 by omega, ne_an, ne_ai, eq_ii, Ne.symm h4]⟩
theorem lf_ext2 {M : Mm} {p : Addr} {ds es : List D} {R : Mm → Prop} (m : M p = some (.l ds)) (l : ds.length + es.length ≤ sizeLine) (h : R (M.put p (.l (ds ++ es)))) : ∃ ds' es', D.lst es = .lst es' ∧ M p = some (.l ds') ∧ ds'.length + es'.length ≤ sizeLine ∧ R (M.put p (.l (ds' ++ es'))) := ⟨ds, es, rfl, m, l, h⟩
theorem lead_get {a : Alb} {i : Int} (hl : a.leads.length = a.many) (h0 : 0 ≤ i) (h1 : i < a.many) : valL (idxA 0 a.leads) (.inl i) = some (lead a i) := by
  refine idxA_get h0 ?_
  unfold lead
  rw [List.getD_eq_getElem?_getD, List.getElem?_eq_getElem (by omega)]; rfl
def barS (ld : Int → Int) : Say → List (Int × Int)
  | .apa i j => [(ld i, ld j), (ld j, ld i)]
  | _ => []
theorem barsOf_eq (ld : Int → Int) (says : List Say) : barsOf ld says = says.flatMap (barS ld) := rfl
theorem barsOf_snoc {ld : Int → Int} {says : List Say} {j : Nat} {s : Say} (h : says[j]? = some s) : barsOf ld (says.take (j + 1)) = barsOf ld (says.take j) ++ barS ld s := by
  rw [take_more h, barsOf_eq, barsOf_eq, List.flatMap_append]; simp
theorem barsOf_len {ld : Int → Int} : ∀ {says : List Say}, (barsOf ld says).length ≤ 2 * says.length
  | [] => Nat.le_refl _
  | s :: says => by
    have := barsOf_len (ld := ld) (says := says)
    rw [barsOf_eq] at this ⊢
    rw [List.flatMap_cons, List.length_append, List.length_cons]
    have : (barS ld s).length ≤ 2 := by cases s <;> simp [barS]
    omega
theorem barsOf_len' {ld : Int → Int} {says : List Say} {m : Nat} (ok : SaysOk m says) (j : Nat) : (barsOf ld (says.take j)).length ≤ 80 := by
  have := barsOf_len (ld := ld) (says := says.take j)
  have h := ok.l
  rw [List.length_take] at this
  omega
theorem none_put {M : Mm} {p q : Addr} {c : Cell} (h : (M.put p c) q = none) : q ≠ p ∧ M q = none := by
  by_cases z : q = p
  · subst z; rw [Mm.put_same] at h; cases h
  · rw [Mm.put_ne z] at h; exact ⟨z, h⟩
theorem putD_nil {f : Str} {d : D} : putD f d [] = [(f, d)] := rfl
theorem putD_here {f : Str} {d x : D} {fs : List (Str × D)} : putD f d ((f, x) :: fs) = (f, d) :: fs := by unfold putD; rw [if_pos rfl]
theorem putD_there {f g : Str} {d x : D} {fs fs' : List (Str × D)} (h : ¬ g = f) (t : putD f d fs = fs') : putD f d ((g, x) :: fs) = (g, x) :: fs' := by unfold putD; rw [if_neg h, t]
section
variable {K : PySem.W.Frag} {mg : Str → Option Value} {M : Mm} {c f : Str} {d : D} {fs fs' : List (Str × D)} {fl : List Str} {p : Addr} {R : Mm → Prop}
theorem lf_fldP (hm : M p = some (.o c fs)) (Cc : ClsD K mg c fl) (hf : f ∈ fl) (hz : fs.length < 900) (e : putD f d fs = fs') (q : R (M.put p (.o c fs'))) : pFldS K mg f (.ptr p) d M R := ⟨c, fs, fl, hm, Cc, hf, hz, by rw [e]; exact q⟩
theorem lf_fldPP (Cc : ClsD K mg c fl) (hf : f ∈ fl) (hz : fs.length < 900) (e : putD f d fs = fs') (q : R (M.put p (.o c fs'))) : pFldS K mg f (.ptr p) d (M.put p (.o c fs)) R := ⟨c, fs, fl, Mm.put_same, Cc, hf, hz, by rw [e, Mm.put_put]; exact q⟩
end
theorem nams_lt {i : Int} : ∀ {l : List Key}, .inl i ∈ l → (namsK l).length < l.length
  | [], h => by cases h
  | .inl k :: l, h => by
    have e : namsK (.inl k :: l) = namsK l := rfl
    rw [e, List.length_cons]
    exact Nat.lt_succ_of_le nams_len
  | .inr s :: l, h => by
    have e : namsK (.inr s :: l) = s :: namsK l := rfl
    rw [e, List.length_cons, List.length_cons]
    rcases List.mem_cons.mp h with z | z
    · cases z
    · exact Nat.succ_lt_succ (nams_lt z)
theorem app_get {α : Type} {P : Nat → α → Prop} {l : List α} {v : α} {j : Nat} (hl : l.length = j) (h : ∀ i x, l[i]? = some x → P i x) (hv : P j v) : ∀ i x, (l ++ [v])[i]? = some x → P i x := fun i x e => by
  rcases Nat.lt_trichotomy i j with z | z | z
  · rw [List.getElem?_append_left (by omega)] at e; exact h i x e
  · subst z; rw [← hl, List.getElem?_concat_length] at e; cases e; exact hv
  · rw [List.getElem?_eq_none_iff.mpr (by simp; omega)] at e; cases e
theorem mems_of {a b : List Str} (h : a.all (fun x => b.contains x) = true) : ∀ y ∈ a, y ∈ b := fun y hy => by simpa using List.all_eq_true.mp h y hy
section
variable {M : Mm} {p q1 q2 : Addr} {A B C A' B' : Cell}
theorem put3 (n1 : q1 ≠ p) (n2 : q2 ≠ p) (n3 : q2 ≠ q1) : ((((M.put q1 A).put q2 B).put p C).put q1 A').put q2 B' = ((M.put q1 A').put q2 B').put p C := by
  funext z
  unfold Mm.put
  by_cases a : z = p
  · have b : ¬ z = q1 := fun e => n1 (e.symm.trans a)
    have c : ¬ z = q2 := fun e => n2 (e.symm.trans a)
    simp only [if_pos a, if_neg b, if_neg c]
  · by_cases c : z = q2
    · simp only [if_neg a, if_pos c]
    · by_cases b : z = q1
      · simp only [if_neg a, if_neg c, if_pos b]
      · simp only [if_neg a, if_neg c, if_neg b]
theorem ds_frz2 {X : Cx} {w : Wi} {Γ : Ga} {P : Po} {sts : List Stmt} {cn f1 f2 : Str} {fs fs1 fs2 : List (Str × D)} {c1 c2 : Cell} (n1 : q1 ≠ p) (n2 : q2 ≠ p) (n3 : q2 ≠ q1) (h1 : M q1 = none) (h2 : M q2 = none) (hf1 : fs.lookup f1 = some (.ptr q1)) (e1 : putD f1 c1.data fs = fs1) (hf2 : fs1.lookup f2 = some (.ptr q2)) (e2 : putD f2 c2.data fs1 = fs2)
    (h : DS X w sts Γ (M.put p (.o cn fs2)) P) : DS X w sts Γ (((M.put q1 c1).put q2 c2).put p (.o cn fs)) P := by
  refine ds_frzF (p := p) (q := q1) (f := f1) (cl := c1) Mm.put_same hf1 (by rw [Mm.put_ne n1, Mm.put_ne n3.symm, Mm.put_same]) n1.symm ?_
  rw [e1]
  refine ds_frzF (p := p) (q := q2) (f := f2) (cl := c2) Mm.put_same hf2 (by rw [Mm.put_ne n2]; unfold Mm.del; rw [if_neg n3, Mm.put_ne n2, Mm.put_same]) n2.symm ?_
  rw [e2]
  have e : ((((((M.put q1 c1).put q2 c2).put p (.o cn fs)).del q1).put p (.o cn fs1)).del q2).put p (.o cn fs2) = M.put p (.o cn fs2) := by
    funext z
    unfold Mm.put Mm.del
    by_cases a : z = p
    · simp only [if_pos a]
    · by_cases c : z = q2
      · simp only [if_neg a, if_pos c]; rw [c]; exact h2.symm
      · by_cases b : z = q1
        · simp only [if_neg a, if_neg c, if_pos b]; rw [b]; exact h1.symm
        · simp only [if_neg a, if_neg c, if_neg b]
  rw [e]
  exact h
end
def isNob : Say → Bool
  | .nob _ => true
  | _ => false
def nobL (a : Alb) : Say → Int
  | .nob i => lead a i
  | _ => 0
theorem sing_of {a : Alb} {ns : List Int} (h : ∀ k, k ∈ ns ↔ ∃ x ∈ a.says, isNob x = true ∧ nobL a x = k) : ∀ k, k ∈ ns ↔ ∃ i, Say.nob i ∈ a.says ∧ lead a i = k := fun k => by
  rw [h]
  constructor
  · rintro ⟨s, h1, h2, h3⟩
    cases s with
    | nob i => exact ⟨i, h1, h3⟩
    | _ => cases h2
  · rintro ⟨i, h1, h2⟩; exact ⟨_, h1, rfl, h2⟩
end L3
namespace L3
open PySem PySem.Spec PyProof.Rows L2
/-! ### 47. Classes of pictures -/
structure IsClass (E : List (Key × Key)) (i : Int) (cl : List Int) : Prop where
  so : cl.Pairwise (· < ·)
  cn : ∀ j, j ∈ cl ↔ Conn E (.inl i) (.inl j)
theorem pics_nodup : ∀ {l : List Key}, l.Nodup → (picsK l).Nodup
  | [], _ => List.nodup_nil
  | .inr i :: l, h => by
    have e : picsK (.inr i :: l) = picsK l := rfl
    rw [e]; exact pics_nodup (List.nodup_cons.mp h).2
  | .inl s :: l, h => by
    have e : picsK (.inl s :: l) = s :: picsK l := rfl
    rw [e, List.nodup_cons, mem_pics]
    exact ⟨(List.nodup_cons.mp h).1, pics_nodup (List.nodup_cons.mp h).2⟩
theorem strict_of : ∀ {l : List Int}, l.Pairwise (· ≤ ·) → l.Nodup → l.Pairwise (· < ·)
  | [], _, _ => .nil
  | x :: l, h, n => by
    rw [List.pairwise_cons] at h ⊢
    rw [List.nodup_cons] at n
    exact ⟨fun y hy => by have := h.1 y hy; have : x ≠ y := fun e => n.1 (by rw [e]; exact hy); omega, strict_of h.2 n.2⟩
theorem class_of' {m : Nat} {says : List Say} {i : Int} {l : List Key} (ok : SaysOk m says) (hl : valL (closedL m says) (.inl i) = some l) {ns : List Int} (p : ns.Perm (picsK l)) (so : ns.Pairwise (· ≤ ·)) : IsClass (ties says) i ns := by
  obtain ⟨c, _⟩ := cls_closed ok.ok
  exact ⟨strict_of so (p.nodup_iff.mpr (pics_nodup (c.nd _ _ hl))), fun s => by rw [p.mem_iff, mem_pics]; exact c.cn _ _ hl _⟩
theorem lead_is {a : Alb} {i : Int} (A : AlbOk a) (h0 : 0 ≤ i) (h1 : i < a.many) : IsLead a.many (ties a.says) i (lead a i) := by
  have z := A.ld i.toNat (lead a i) (by
    unfold lead
    have := A.ll
    rw [List.getD_eq_getElem?_getD, List.getElem?_eq_getElem (by omega)]; rfl)
  rw [Int.toNat_of_nonneg h0] at z
  exact z
theorem lead_val {a : Alb} {i : Int} (A : AlbOk a) (h0 : 0 ≤ i) (h1 : i < a.many) : valL (idxA 0 a.leads) (.inl i) = some (lead a i) := lead_get A.ll h0 h1
/-- two pictures are tied: they have the same leader -/
theorem lead_iff {a : Alb} {i j : Int} (A : AlbOk a) (h0 : 0 ≤ i) (h1 : i < a.many) (g0 : 0 ≤ j) (g1 : j < a.many) : lead a i = lead a j ↔ Conn (ties a.says) (.inl i) (.inl j) := by
  have x := lead_is A h0 h1
  have y := lead_is A g0 g1
  constructor
  · intro e; exact x.cn.trans (by rw [e]; exact y.cn.symm)
  · intro c
    have := x.le _ (c.trans y.cn)
    have := y.le _ (c.symm.trans x.cn)
    omega
def nameL (a : Alb) (i : Int) : List Str := a.names.getD i.toNat []
theorem names_is {a : Alb} {i : Int} (A : AlbOk a) (h0 : 0 ≤ i) (h1 : i < a.many) : IsNames (ties a.says) i (nameL a i) ∧ valL (idxA 0 a.names) (.inl i) = some (nameL a i) := by
  have hl := A.nl
  have e : a.names[i.toNat]? = some (nameL a i) := by
    unfold nameL
    rw [List.getD_eq_getElem?_getD, List.getElem?_eq_getElem (by omega)]; rfl
  have z := A.nm i.toNat _ e
  rw [Int.toNat_of_nonneg h0] at z
  exact ⟨z, idxA_get h0 e⟩
/-- no quarrel -/
structure Sound (m : Nat) (says : List Say) : Prop where
  bar : ∀ i j, Say.apa i j ∈ says → ¬ Conn (ties says) (.inl i) (.inl j)
  nam : ∀ i : Int, 0 ≤ i → i < m → ∀ s t, Conn (ties says) (.inl i) (.inr s) → Conn (ties says) (.inl i) (.inr t) → s = t
  sin : ∀ i, Say.nob i ∈ says → ∀ j, Conn (ties says) (.inl i) (.inl j) → j = i
theorem oks_ints : ∀ {l : List Int}, D.oks 59 (l.map .int) = true
  | [] => oks_nil
  | i :: l => oks_cons ok_int oks_ints
theorem mem_ints {x : Int} : ∀ {l : List Int}, D.mem (.int x) (l.map .int) = decide (x ∈ l)
  | [] => by simp [D.mem]
  | b :: l => by
    have ih := mem_ints (x := x) (l := l)
    unfold D.mem at ih ⊢
    rw [List.map_cons, List.any_cons, ih, eq_ii]
    by_cases h : b = x
    · simp [h]
    · have : ¬ x = b := fun e => h e.symm
      by_cases z : x ∈ l <;> simp [h, this, z]
section
variable {M : Mm} {Q : D → Mm → Prop} {x : Int} {l : List Int}
theorem lf_inI (h : Q (.bl (decide (x ∈ l))) M) : pIn false (.int x) (.lst (l.map .int)) M Q := lf_inL' ok_int oks_ints mem_ints h
theorem lf_ninI (h : Q (.bl (!decide (x ∈ l))) M) : pIn true (.int x) (.lst (l.map .int)) M Q := lf_ninL' ok_int oks_ints mem_ints h
end
theorem mem_bars {ld : Int → Int} {says : List Say} {x : Int × Int} : x ∈ barsOf ld says ↔ ∃ i j, Say.apa i j ∈ says ∧ (x = (ld i, ld j) ∨ x = (ld j, ld i)) := by
  rw [barsOf_eq, List.mem_flatMap]
  constructor
  · rintro ⟨s, h1, h2⟩
    cases s with
    | apa i j => exact ⟨i, j, h1, by simpa [barS] using h2⟩
    | _ => cases h2
  · rintro ⟨i, j, h1, h2⟩; exact ⟨_, h1, by simpa [barS] using h2⟩
theorem bars_sound {a : Alb} (A : AlbOk a) {x : Int × Int} (hx : x ∈ barsOf (lead a) a.says) (e : x.1 = x.2) : ¬ Sound a.many a.says := fun S => by
  obtain ⟨i, j, h1, h2⟩ := mem_bars.mp hx
  obtain ⟨i0, i1, j0, j1, _⟩ := A.s.ok _ h1
  have e' : lead a i = lead a j := by
    rcases h2 with rfl | rfl
    · exact e
    · exact e.symm
  exact S.bar i j h1 ((lead_iff A i0 i1 j0 j1).mp e')
theorem two_of {α : Type} {l : List α} (n : l.Nodup) (h : 1 < l.length) : ∃ x y, x ∈ l ∧ y ∈ l ∧ x ≠ y := by
  match l, h with
  | x :: y :: l, _ => exact ⟨x, y, by simp, by simp, fun e => by rw [List.nodup_cons] at n; exact n.1 (by rw [e]; simp)⟩
theorem one_of {α : Type} {l : List α} (h : l.length ≤ 1) {x y : α} (hx : x ∈ l) (hy : y ∈ l) : x = y := by
  match l, h with
  | [], _ => cases hx
  | [z], _ => simp at hx hy; rw [hx, hy]
theorem names_sound {a : Alb} (A : AlbOk a) {i : Int} (h0 : 0 ≤ i) (h1 : i < a.many) (h : 1 < (nameL a i).length) : ¬ Sound a.many a.says := fun S => by
  have z := (names_is A h0 h1).1
  obtain ⟨x, y, hx, hy, ne⟩ := two_of z.nd h
  exact ne (S.nam i h0 h1 x y ((z.cn x).mp hx) ((z.cn y).mp hy))
theorem sing_sound {a : Alb} (A : AlbOk a) {i : Int} (h0 : 0 ≤ i) (h1 : i < a.many) (hs : lead a i ∈ a.sing) {cl : List Int} (c : IsClass (ties a.says) i cl) (h : 1 < cl.length) : ¬ Sound a.many a.says := fun S => by
  obtain ⟨k, hk, e⟩ := (A.sm _).mp hs
  obtain ⟨k0, k1⟩ := A.s.ok _ hk
  have cn := (lead_iff A k0 k1 h0 h1).mp e
  have nd : cl.Nodup := c.so.imp fun h e => by omega
  obtain ⟨x, y, hx, hy, ne⟩ := two_of nd h
  have a1 := S.sin k hk x (cn.trans ((c.cn x).mp hx))
  have a2 := S.sin k hk y (cn.trans ((c.cn y).mp hy))
  exact ne (a1.trans a2.symm)
theorem sound_of {a : Alb} (A : AlbOk a) (hb : ∀ x ∈ barsOf (lead a) a.says, x.1 ≠ x.2) (hp : ∀ i : Nat, i < a.many → (nameL a i).length ≤ 1 ∧ (lead a i ∈ a.sing → ∃ cl, IsClass (ties a.says) i cl ∧ cl.length ≤ 1)) : Sound a.many a.says where
  bar := fun i j h c => by
    obtain ⟨i0, i1, j0, j1, _⟩ := A.s.ok _ h
    exact hb (lead a i, lead a j) (mem_bars.mpr ⟨i, j, h, .inl rfl⟩) ((lead_iff A i0 i1 j0 j1).mpr c)
  nam := fun i h0 h1 s t hs ht => by
    have z := (names_is A h0 h1).1
    have p := (hp i.toNat (by omega)).1
    rw [Int.toNat_of_nonneg h0] at p
    exact one_of p ((z.cn s).mpr hs) ((z.cn t).mpr ht)
  sin := fun i h j c => by
    obtain ⟨i0, i1⟩ := A.s.ok _ h
    have p := (hp i.toNat (by omega)).2
    rw [Int.toNat_of_nonneg i0] at p
    obtain ⟨cl, h1, h2⟩ := p ((A.sm _).mpr ⟨i, h, rfl⟩)
    exact one_of h2 ((h1.cn j).mpr c) ((h1.cn i).mpr .rfl)
theorem Keep.get {p q : Addr} {M M' : Mm} {c : Cell} (k : Keep p M M') (n : q ≠ p) (h : M q = some c) : M' q = some c := (k q n).trans h
/-- the bag and one more cell change -/
structure Keep2 (p q : Addr) (M M' : Mm) : Prop where
  go : ∀ r, r ≠ p → r ≠ q → M' r = M r
theorem Keep2.more {p q : Addr} {M M1 M2 : Mm} (k : Keep2 p q M M1) (h : Keep p M1 M2) : Keep2 p q M M2 := ⟨fun r a b => (h r a).trans (k.go r a b)⟩
theorem Keep2.put {p q : Addr} {M M1 : Mm} {c : Cell} (k : Keep2 p q M M1) : Keep2 p q M (M1.put q c) := ⟨fun r a b => by rw [Mm.put_ne b]; exact k.go r a b⟩
theorem Keep2.del {p q : Addr} {M M1 : Mm} (k : Keep2 p q M M1) (n : M q = none) : Keep p M (M1.del q) := fun r a => by
  unfold Mm.del
  by_cases z : r = q
  · rw [if_pos z, z, n]
  · rw [if_neg z]; exact k.go r a z
theorem BagAt.del' {p q : Addr} {M : Mm} (h : BagAt M p) (n : p ≠ q) : BagAt (M.del q) p := by
  obtain ⟨b, hb⟩ := h
  exact ⟨b, by unfold Mm.del; rw [if_neg n]; exact hb⟩
theorem tx_inj {l l' : List Nat} (h : tx l = tx l') : l = l' := by
  have := congrArg (fun s : Str => s.cps.toList) h
  simpa [tx_l] using this
theorem name_in {names : List (List Nat)} {n : Nat} (h : NamesL n names) {l : List Nat} (m : D.str (tx l) ∈ names.map fun l => D.str (tx l)) : NameL l := by
  obtain ⟨l', h1, h2⟩ := List.mem_map.mp m
  simp only [D.str.injEq] at h2
  rw [← tx_inj h2]
  exact h.2.1 l' h1
theorem ok_snoc {m : Int} {says : List Say} {s : Say} (h : ∀ t ∈ says, t.ok m) (g : s.ok m) : ∀ t ∈ says ++ [s], t.ok m := fun t ht => by
  rcases List.mem_append.mp ht with z | z
  · exact h t z
  · rw [List.mem_singleton.mp z]; exact g
theorem put_says {M : Mm} {q : Addr} {says : List Say} {s : Say} {d : D} (h : d = s.d) : (M.put q (.l (says.map Say.d ++ [d]))) q = some (.l ((says ++ [s]).map Say.d)) := by
  rw [Mm.put_same, List.map_append, h]; rfl
theorem len_snoc {says : List Say} {s : Say} {j : Nat} (h : says.length ≤ j) : (says ++ [s]).length ≤ j + 1 := by simp; omega
theorem strict_uniq : ∀ {l l' : List Int}, l.Pairwise (· < ·) → l'.Pairwise (· < ·) → (∀ x, x ∈ l ↔ x ∈ l') → l = l'
  | [], [], _, _, _ => rfl
  | [], y :: l', _, _, h => by have := (h y).mpr List.mem_cons_self; cases this
  | x :: l, [], _, _, h => by have := (h x).mp List.mem_cons_self; cases this
  | x :: l, y :: l', a, b, h => by
    rw [List.pairwise_cons] at a b
    have e : x = y := by
      rcases List.mem_cons.mp ((h x).mp List.mem_cons_self) with z | z
      · exact z
      · rcases List.mem_cons.mp ((h y).mpr List.mem_cons_self) with w | w
        · exact w.symm
        · have := a.1 y w; have := b.1 x z; omega
    subst e
    rw [strict_uniq a.2 b.2 fun z => ⟨fun m => ?_, fun m => ?_⟩]
    · have := a.1 z m
      rcases List.mem_cons.mp ((h z).mp (List.mem_cons_of_mem _ m)) with w | w
      · omega
      · exact w
    · have := b.1 z m
      rcases List.mem_cons.mp ((h z).mpr (List.mem_cons_of_mem _ m)) with w | w
      · omega
      · exact w
def picsA (a : Alb) : List Int := (List.range a.many).map fun i : Nat => (i : Int)
theorem mem_picsA {a : Alb} {i : Int} : i ∈ picsA a ↔ 0 ≤ i ∧ i < a.many := by
  unfold picsA
  rw [List.mem_map]
  constructor
  · rintro ⟨k, h, rfl⟩; rw [List.mem_range] at h; omega
  · intro h; exact ⟨i.toNat, List.mem_range.mpr (by omega), by omega⟩
theorem picsA_so {a : Alb} : (picsA a).Pairwise (· < ·) := by
  unfold picsA
  rw [List.pairwise_map]
  exact List.pairwise_lt_range.imp fun h => by omega
/-- the class of a picture, the leaders, as functions -/
def clsA (a : Alb) (i : Int) : List Int := (picsA a).filter fun j => decide (lead a i = lead a j)
def leadsA (a : Alb) : List Int := (picsA a).filter fun i => decide (lead a i = i)
theorem conn_pic {a : Alb} (A : AlbOk a) {i j : Int} (h0 : 0 ≤ i) (h1 : i < a.many) (c : Conn (ties a.says) (.inl i) (.inl j)) : 0 ≤ j ∧ j < a.many := by
  obtain ⟨l, hl, _⟩ := cls_get A.s h0 h1
  obtain ⟨cc, _⟩ := cls_closed A.s.ok
  have hk := cc.sub hl _ ((cc.cn _ _ hl _).mpr c)
  rcases (cc.key _).mp hk with ⟨k, e, g1, g2⟩ | ⟨y, hy⟩
  · cases e; exact ⟨g1, g2⟩
  · obtain ⟨s, g1, g2⟩ := List.mem_flatMap.mp hy
    have := A.s.ok s g1
    cases s with
    | nob i => cases g2
    | apa i j => cases g2
    | isn i l => simp [Say.tie] at g2
    | sam i j => simp only [Say.tie, List.mem_singleton] at g2; cases g2; exact ⟨this.2.2.1, this.2.2.2.1⟩
theorem cls_eq {a : Alb} (A : AlbOk a) {i : Int} {cl : List Int} (h0 : 0 ≤ i) (h1 : i < a.many) (c : IsClass (ties a.says) i cl) : cl = clsA a i := by
  refine strict_uniq c.so (picsA_so.filter _) fun j => ?_
  rw [c.cn]
  unfold clsA
  rw [List.mem_filter, mem_picsA, decide_eq_true_eq]
  constructor
  · intro k
    obtain ⟨g0, g1⟩ := conn_pic A h0 h1 k
    exact ⟨⟨g0, g1⟩, (lead_iff A h0 h1 g0 g1).mpr k⟩
  · rintro ⟨⟨g0, g1⟩, e⟩; exact (lead_iff A h0 h1 g0 g1).mp e
theorem clsA_is {a : Alb} (A : AlbOk a) {i : Int} (h0 : 0 ≤ i) (h1 : i < a.many) : IsClass (ties a.says) i (clsA a i) where
  so := picsA_so.filter _
  cn := fun j => by
    unfold clsA
    rw [List.mem_filter, mem_picsA, decide_eq_true_eq]
    constructor
    · rintro ⟨⟨g0, g1⟩, e⟩; exact (lead_iff A h0 h1 g0 g1).mp e
    · intro k
      obtain ⟨g0, g1⟩ := conn_pic A h0 h1 k
      exact ⟨⟨g0, g1⟩, (lead_iff A h0 h1 g0 g1).mpr k⟩
theorem mem_leads {a : Alb} {i : Int} : i ∈ leadsA a ↔ (0 ≤ i ∧ i < a.many) ∧ lead a i = i := by
  unfold leadsA; rw [List.mem_filter, mem_picsA, decide_eq_true_eq]
theorem picsA_len {a : Alb} : (picsA a).length = a.many := by simp [picsA]
theorem leadsA_len {a : Alb} : (leadsA a).length ≤ a.many := by
  have := List.length_filter_le (fun i => decide (lead a i = i)) (picsA a)
  rw [picsA_len] at this; exact this
theorem names_ok' {a : Alb} (A : AlbOk a) {i : Int} (h0 : 0 ≤ i) (h1 : i < a.many) : ∀ s ∈ nameL a i, PyData.strOk s = true := fun s hs => by
  obtain ⟨l, hl, _, _, hk⟩ := cls_get A.s h0 h1
  obtain ⟨cc, _⟩ := cls_closed A.s.ok
  have z := (names_is A h0 h1).1
  exact hk (.inr s) ((cc.cn _ _ hl _).mpr ((z.cn s).mp hs))
theorem oks_strs : ∀ {l : List Str}, (∀ s ∈ l, PyData.strOk s = true) → ∀ n, D.oks (n + 1) (l.map .str) = true
  | [], _, _ => oks_nil
  | s :: l, h, n => oks_cons (ok_str (h s List.mem_cons_self)) (oks_strs (fun t ht => h t (List.mem_cons_of_mem _ ht)) n)
theorem eq_l0s {l : List Str} : D.eq (.lst (l.map .str)) (.lst []) = decide (l = []) := by
  cases l with
  | nil => rw [List.map_nil, eq_l0]; rfl
  | cons s l => rw [List.map_cons, eq_l1]; rfl
theorem lf_neS0 {M : Mm} {Q : D → Mm → Prop} {l : List Str} (h : ∀ s ∈ l, PyData.strOk s = true) (q : Q (.bl (!decide (l = []))) M) : pNe (.lst (l.map .str)) (.lst []) M Q := ⟨oks_strs h 58, oks_nil (n := 59), by rw [eq_l0s]; exact q⟩
theorem oks_pairs : ∀ {l : List (Int × Int)}, D.oks 59 (l.map pD) = true
  | [] => oks_nil
  | i :: l => oks_cons (ok_tup (oks_cons ok_int (oks_cons ok_int oks_nil))) oks_pairs
theorem eq_pp {x y : Int × Int} : D.eq (pD x) (pD y) = decide (x = y) := by
  show D.eq (.tup [.int x.1, .int x.2]) (.tup [.int y.1, .int y.2]) = _
  simp only [eq_tt, eqs_cons, eqs_nil, eq_ii, Bool.and_true]
  rw [← Bool.decide_and]
  congr 1
  exact propext ⟨fun h => Prod.ext h.1 h.2, fun h => ⟨congrArg Prod.fst h, congrArg Prod.snd h⟩⟩
theorem mem_pairs {x : Int × Int} : ∀ {l : List (Int × Int)}, D.mem (pD x) (l.map pD) = decide (x ∈ l)
  | [] => by simp [D.mem]
  | b :: l => by
    have ih := mem_pairs (x := x) (l := l)
    unfold D.mem at ih ⊢
    rw [List.map_cons, List.any_cons, ih, eq_pp]
    by_cases h : b = x
    · simp [h]
    · have : ¬ x = b := fun e => h e.symm
      by_cases z : x ∈ l <;> simp [h, this, z]
theorem lf_inP2 {M : Mm} {Q : D → Mm → Prop} {x y : Int} {l : List (Int × Int)} (h : Q (.bl (decide ((x, y) ∈ l))) M) : pIn false (.tup [.int x, .int y]) (.lst (l.map pD)) M Q := lf_inL' (x := pD (x, y)) (ok_tup (oks_cons ok_int (oks_cons ok_int oks_nil))) oks_pairs mem_pairs h
def barA (a : Alb) (i j : Int) : Bool := decide (lead a i ≠ lead a j) && (decide (lead a i ∈ a.sing) || decide (lead a j ∈ a.sing) || decide ((lead a i, lead a j) ∈ barsOf (lead a) a.says) || (!decide (nameL a (lead a i) = []) && !decide (nameL a (lead a j) = [])))
theorem eq_l0d {l : List D} : D.eq (.lst l) (.lst []) = l.isEmpty := by
  cases l with
  | nil => rw [eq_l0]; rfl
  | cons s l => rw [eq_l1]; rfl
theorem lf_ne0 {M : Mm} {Q : D → Mm → Prop} {l : List D} (h : D.oks 59 l = true) (q : Q (.bl (!l.isEmpty)) M) : pNe (.lst l) (.lst []) M Q := ⟨h, oks_nil (n := 59), by rw [eq_l0d]; exact q⟩
def nobIn (ps : List Int) : Say → Bool
  | .nob i => decide (i ∈ ps)
  | _ => false
theorem says_sms {m : Int} (hm : m ≤ 24) : ∀ {says : List Say}, (∀ s ∈ says, s.ok m) → D.sms 8 (says.map Say.d) = true
  | [], _ => sms_nil
  | s :: l, h => sms_cons (say_sm (h s List.mem_cons_self) hm).1 (says_sms hm fun t ht => h t (List.mem_cons_of_mem _ ht))
theorem says_oks {m : Int} (hm : m ≤ 24) {says : List Say} (h : ∀ s ∈ says, s.ok m) : D.oks 59 (says.map Say.d) = true := sms_okk (says_sms hm h) (by decide)
end L3
namespace L3
open PySem PySem.Spec PyProof.Rows L2
/-! ### 51. sorted of data of any kind -/
theorem each_reps {K : PySem.W.Frag} {mg : Str → Option Value} {Hb : Hp} : ∀ {vs : List V} {us : List Value} {ds : List D}, Vals vs us → Reps K mg Hb vs ds → PySem.W.EachIs (fun u d => ∃ v, RelV v u ∧ Rep K mg Hb v d) us ds
  | [], _, _, rv, rs => by cases rs; cases rv; exact .nil
  | _ :: _, _, _, rv, rs => by
    cases rs with
    | cons r1 r2 =>
      cases rv with
      | cons v1 v2 => exact .cons ⟨_, v1, r1⟩ (each_reps v2 r2)
theorem reps_each {K : PySem.W.Frag} {mg : Str → Option Value} {Hb : Hp} : ∀ {us : List Value} {ds : List D}, PySem.W.EachIs (fun u d => ∃ v, RelV v u ∧ Rep K mg Hb v d) us ds → ∃ vs, Vals vs us ∧ Reps K mg Hb vs ds
  | [], _, h => by cases h; exact ⟨[], .nil, .nil⟩
  | _ :: _, _, h => by
    cases h with
    | cons h1 h2 =>
      obtain ⟨v, a, b⟩ := h1
      obtain ⟨vs, c, d⟩ := reps_each h2
      exact ⟨v :: vs, .cons a c, .cons b d⟩
theorem oks_mem {n : Nat} {d : D} : ∀ {ds : List D}, D.oks n ds = true → d ∈ ds → D.ok n d = true
  | [], _, h => by cases h
  | x :: xs, h, m => by
    rw [D.oks, Bool.and_eq_true] at h
    rcases List.mem_cons.mp m with rfl | m
    · exact h.1
    · exact oks_mem h.2 m
def dle : D → D → Bool := PySem.W.dataLe false D.py
theorem dle_total : PySem.W.TotalLe dle := PySem.W.sortLe_total (listOrd itemOrd) false fun b : D => PySem.W.keyToks (D.py b)
def D.srt (ds : List D) : List D := ds.mergeSort dle
theorem srt_perm (ds : List D) : (D.srt ds).Perm ds := List.mergeSort_perm ds dle
theorem srt_length (ds : List D) : (D.srt ds).length = ds.length := (srt_perm ds).length_eq
theorem srt_pairwise (ds : List D) : (D.srt ds).Pairwise fun a b => dle a b = true := PySem.W.sort_pairwise dle_total ds
/-- what sorted() can compare: one kind, not None, no empty tuple -/
structure Sble (ds : List D) : Prop where
  ok : D.oks 59 ds = true
  al : PySem.W.AllAlike (ds.map D.py)
  sb : PySem.W.Sortable (ds.map D.py)
  ln : ds.length ≤ sizeLine
def pSortD : PP1 := fun x M Q => ∃ ds, x = .lst ds ∧ Sble ds ∧ Q (.lst (D.srt ds)) M
theorem cd_sortD {X : Cx} (hu : X.A.units + 65 < cLine) : CD X (.builtin "sorted") (one pSortD) := .one fun w F H0 Hb H σ Γ M v x Q A e r q => by
  obtain ⟨ds, hx, sb, q⟩ := q
  subst hx
  cases r with
  | @lst a vs _ h rs =>
    intro pins s σ' us I rv
    obtain ⟨u, rfl, ru⟩ := vals1 rv
    obtain rfl : u = Value.ref a := ru
    obtain ⟨its, rvs, hl, hz⟩ := I.list (SqL.of (A.hs.ex _ _ h))
    have e1 := each_reps rvs rs
    have er : PySem.W.EachIs (fun u d => ∃ as, Reads s.heap u (D.py d) as) its ds := (PySem.W.each_mem e1).mono fun u d ⟨⟨v, a, b⟩, hm⟩ => Dp.reads I _ _ _ (rep_py A.hs.ex b (oks_mem sb.ok hm)) a
    refine PySem.W.sorted_data hl.isList e1 er sb.al sb.sb sb.ln (fun b hb => ?_) fun out hlen eo => ?_
    · have := (D.lay (oks_mem sb.ok hb)).2
      omega
    · obtain ⟨ws, rw', rws⟩ := reps_each eo
      obtain ⟨c, hc⟩ := sortedAll_at s.heap its out.toArray
      have hd := I.hok.fresh (Nat.le_succ s.heap.objs.size)
      refine ⟨.ref (s.heap.objs.size + 1), upd H (s.heap.objs.size + 1) (.lst ws), I.laid (t' := s.toks) (fun b o z => sortedAll_old z) (Nat.le_succ _) ⟨?_, out, c, rw', hc⟩, rfl, A.lst e rws hd q⟩
      rw [rws.length, List.length_mergeSort]
      exact sb.ln
section
variable {X : Cx} {w : Wi} {Γ : Ga} {M : Mm} {Q : D → Mm → Prop} {a : Expr} {pos p : Pos} {k : Nat} {n : Nm}
theorem de_sorted' (S : Sc X k n) (hs : starEach [a] X.env = [(false, eval a X.env)]) (hx : ("sorted" : Str) ∈ n.glb) (hb : ("sorted" : Str) ∈ n.bts) (h : DE X w a Γ M fun d M1 => pSorted d M1 Q ∨ pSortD d M1 Q) : DE X w (.Call (.Name "sorted" p) [a] [] pos) Γ M Q := .mk fun F σ H Hb A => by
  have e1 : PE X (.Call (.Name "sorted" p) [a] [] pos) _ := pe_callB semC_ok (S.gl _ hx).1 (S.bt _ hb) boot_sorted (pa_cons semE_ok pa_nil hs) (okN_n (S.gl _ hx).2) (okN_d (S.gl _ hx).2) hs rfl
  refine semE_of e1 ?_
  refine semE_mono (h.run F σ H Hb A) fun v H1 ⟨Hb1, d, M1, ex, A1, r, q⟩ => ?_
  rcases q with q | q
  · exact cd_sorted w F Hb Hb1 H1 σ Γ M1 [v] [d] Q A1 ex (.cons r .nil) q
  · exact cd_sortD S.u65 w F Hb Hb1 H1 σ Γ M1 [v] [d] Q A1 ex (.cons r .nil) q
end
/-! ### alike data -/
theorem py_map : ∀ ds : List D, D.pys ds = ds.map D.py
  | [] => rfl
  | d :: ds => by rw [D.pys, List.map_cons, py_map ds]
theorem sble_ints (ns : List Int) (h : ns.length ≤ sizeLine) : Sble (ns.map D.int) where
  ok := by
    induction ns with
    | nil => rfl
    | cons n ns ih => exact (by rw [List.map_cons, D.oks, ih (by simp at h; omega)]; rfl)
  al := by
    intro d hd d' hd'
    rw [List.map_map] at hd hd'
    obtain ⟨i, _, rfl⟩ := List.mem_map.mp hd
    obtain ⟨j, _, rfl⟩ := List.mem_map.mp hd'
    rfl
  sb := .inr fun d hd => by
    rw [List.map_map] at hd
    obtain ⟨i, _, rfl⟩ := List.mem_map.mp hd
    exact ⟨fun z => by simp [D.py] at z, fun xs z => by simp [D.py] at z⟩
  ln := by rw [List.length_map]; exact h
end L3
/-! ### 52. sorted(set(texts)) -/
namespace L3T
open PySem PySem.Spec PyProof.Rows PySem.Froz L2
variable {P : Program} {w : World} {A : Around} {E : Value → Shared → Prop} {s : Shared}
/-- the set at a holds the texts l; its table can be walked -/
structure TSet (P : Program) (w : World) (h : Heap) (a : Addr) (l : List Str) (D : SD) : Prop where
  ob : h.get? a = some (sObj "set" D)
  ok : TxOk P w D l
  nd : l.Nodup
  tx : ∀ e ∈ D.1.toList, ∃ k tk, e.2 = .str k tk
  ris : Ris D.2.2.place.toList
  led : w.params.followText "set-order" = true ∨ D.2.2.led = true
theorem tail_led {ep : Nat} {es : Array (Int × Value)} {t : SetTable} {b : Bool} : (tailTx ep es t b).2.2.led = t.led := by
  unfold tailTx
  split
  · exact relayAll_led _ _ _
  · rfl
theorem tail_ris {ep : Nat} {es : Array (Int × Value)} {t : SetTable} {b : Bool} (r : Ris t.place.toList) : Ris (tailTx ep es t b).2.2.place.toList := by
  unfold tailTx
  split
  · exact relayAll_ris _ _ _
  · exact r
theorem tail_mem {ep : Nat} {es : Array (Int × Value)} {t : SetTable} {b : Bool} {e : Int × Value} (h : e ∈ (tailTx ep es t b).1.toList) : e ∈ es.toList := by
  unfold tailTx at h
  split at h
  · exact (relayAll_perm _ _ _).mem_iff.mp h
  · exact h
theorem addTx_led {x : Int} {v : Value} {D : SD} : (addTx x v D).2.2.led = D.2.2.led := by
  unfold addTx
  rw [tail_led]
  split <;> exact layNew_led _ _ _ _
theorem addTx_ris {x : Int} {v : Value} {D : SD} (r : Ris D.2.2.place.toList) : Ris (addTx x v D).2.2.place.toList := by
  unfold addTx
  refine tail_ris ?_
  split <;> exact layNew_ris _ _ _ _ r
theorem addTx_mem {x : Int} {v : Value} {D : SD} {e : Int × Value} (h : e ∈ (addTx x v D).1.toList) : e ∈ D.1.toList ∨ e = (x, v) := by
  unfold addTx at h
  have z := (layNew_perm D.2.2 D.1 x v).mem_iff.mp (tail_mem h)
  rw [Array.toList_push, List.mem_append, List.mem_singleton] at z
  exact z
theorem put_old {h : Heap} {a b : Addr} {X o : Obj} (n : b ≠ a) (e : h.get? b = some o) : (h.update a fun _ => X).get? b = some o := by
  rw [Heap.get?_update_ne _ _ _ _ n]
  exact e
theorem TSet.add {a : Addr} {l : List Str} {D : SD} {k : Str} (u : Tok) (T : TSet P w s.heap a l D) (n : k ∉ l) : TSet P w (s.heap.update a fun _ => sObj "set" (addTx (hashStr w k) (.str k u) D)) a (k :: l) (addTx (hashStr w k) (.str k u) D) where
  ob := get_upd _ T.ob rfl
  ok := add_ok u T.ok
  nd := List.nodup_cons.mpr ⟨n, T.nd⟩
  tx := fun e he => (addTx_mem he).elim (T.tx e) fun z => ⟨k, u, by rw [z]⟩
  ris := addTx_ris T.ris
  led := by rw [addTx_led]; exact T.led
/-- the text is there already -/
theorem add_seen {a : Addr} {l : List Str} {D : SD} {k : Str} {u : Tok} {Q : Bool → Shared → Prop} (T : TSet P w s.heap a l D) (hk : k ∈ l) (hb : l.length < scanBound) (h : Q false s) : wpAny (model P w) A (setAddHashed a (.str k u) (hashStr w k)) Q E s := by
  obtain ⟨ob, ok, _, _, _, _⟩ := T
  obtain ⟨es, ep, t⟩ := D
  have sz : es.size < scanBound := by have := ok.sz; dsimp only at this; omega
  have dt : (sObj "set" (es, ep, t)).data = .set es ep t := rfl
  unfold setAddHashed setAddHashedIn
  refine wpAny_holding (wpAny_bind (wpAny_setState_of ob dt ok.fit ?_))
  dsimp only
  rw [byScan_of (knd := strKind P w) rfl sz ok.el, if_pos rfl]
  unfold setAddByScan
  refine wpAny_bind (wpAny_bind (wpAny_rule (wpAny_bind (wpAny_setScan_of (knd := strKind P w) (k := k) (is_str k u) ob dt ok.fit ok.el ?_))))
  obtain ⟨e, he, hi⟩ := (ok.mem k).mp hk
  cases fi : es.toList.findIdx? fun e => (strKind P w).is k e.2 with
  | none => exact absurd hi (by rw [List.findIdx?_eq_none_iff.mp fi e he]; exact Bool.false_ne_true)
  | some j => exact wpAny_pure (wpAny_pure h)
/-- what a list's texts make, one after the other -/
def dedT : List Str → List Str → List Str
  | acc, [] => acc
  | acc, x :: r => dedT (if x ∈ acc then acc else x :: acc) r
theorem dedT_mem {k : Str} : ∀ {r acc : List Str}, k ∈ dedT acc r ↔ k ∈ acc ∨ k ∈ r
  | [], acc => by simp [dedT]
  | x :: r, acc => by
    rw [dedT, dedT_mem]
    split
    · rename_i h
      constructor
      · rintro (z | z)
        · exact .inl z
        · exact .inr (List.mem_cons_of_mem _ z)
      · rintro (z | z)
        · exact .inl z
        · rcases List.mem_cons.mp z with rfl | z
          · exact .inl h
          · exact .inr z
    · simp only [List.mem_cons]
      constructor
      · rintro ((z | z) | z)
        · exact .inr (.inl z)
        · exact .inl z
        · exact .inr (.inr z)
      · rintro (z | z | z)
        · exact .inl (.inr z)
        · exact .inl (.inl z)
        · exact .inr z
section
variable {R : Result → Shared → Prop} {I : Addr} {fp wr : List Addr} {G : Array GenState → Array GenState → Prop} {n : Nat} {PP : Nat → Value → Prop} {St : Nat → Shared → Prop}
theorem loopT (W : WalksS P w A.in1 I fp wr G n PP St) (S : Addr) (hSf : S ∉ fp) (xs : List Str) (hsz : xs.length = n) (hval : ∀ i v, PP i v → ∃ t, v = .str (xs.getD i Str.empty) t) :
    ∀ (k i : Nat) (s : Shared) (l : List Str) (D : SD), n - i = k → i ≤ n → St i s → TSet P w s.heap S l D → l.length ≤ i → n + 1 < scanBound →
      (∀ s' D' l', Moved (S :: wr) G s s' → TSet P w s'.heap S l' D' → l' = dedT l (xs.drop i) → R (.ok (.ret .none)) s') →
      codeAny (model P w) A (.builtin "set.update.loop" ⟨[.ref S, .ref I], []⟩) R s := by
  have hSw : S ∉ wr := fun z => hSf (W.sub _ z)
  intro k
  induction k with
  | zero =>
    intro i s l D e1 e2 st T hl hb fin
    obtain rfl : i = n := by omega
    refine codeAny_builtin PyProof.Rows.F.entry_set_update_loop ?_
    rw [Around.under_plainId PyProof.Rows.F.plain_set_update_loop _]
    show wpAny _ A.in1 (pyNext (.ref I) >>= _) _ _ s
    refine wpAny_bind (W.done s _ _ st fun s' mv => ?_)
    show wpAny _ A.in1 (ret Value.none) _ _ s'
    refine wpAny_pure (fin s' D l (mv.mono fun b hb => List.mem_cons_of_mem _ hb) ⟨mv.heap S _ hSw T.ob, T.ok, T.nd, T.tx, T.ris, T.led⟩ ?_)
    rw [← hsz, List.drop_length]; rfl
  | succ k ih =>
    intro i s l D e1 e2 st T hl hb fin
    have lt : i < n := by omega
    refine codeAny_builtin PyProof.Rows.F.entry_set_update_loop ?_
    rw [Around.under_plainId PyProof.Rows.F.plain_set_update_loop _]
    show wpAny _ A.in1 (pyNext (.ref I) >>= _) _ _ s
    refine wpAny_bind (W.item i s _ _ lt st fun v s1 hp st1 mv => ?_)
    obtain ⟨t, rfl⟩ := hval i v hp
    have T1 : TSet P w s1.heap S l D := ⟨mv.heap S _ hSw T.ob, T.ok, T.nd, T.tx, T.ris, T.led⟩
    have dr : xs.drop i = xs.getD i Str.empty :: xs.drop (i + 1) := by
      rw [List.drop_eq_getElem_cons (by omega)]
      have : i < xs.length := by omega
      simp [List.getD, List.getElem?_eq_getElem this]
    show wpAny _ A.in1 (holding [Value.str (xs.getD i Str.empty) t] (setAdd S (.str (xs.getD i Str.empty) t)) >>= _) _ _ s1
    refine wpAny_bind (wpAny_holding ?_)
    unfold setAdd
    refine wpAny_holding (wpAny_bind ((PySem.strKind P w).pyHash (k := xs.getD i Str.empty) (is_str _ _) ?_))
    have go : ∀ (b : Bool) (h' : Heap) (D' : SD), TSet P w h' S (if xs.getD i Str.empty ∈ l then l else xs.getD i Str.empty :: l) D' → (∀ b o, b ≠ S → s1.heap.get? b = some o → h'.get? b = some o) →
        wpAny (model P w) A.in1 (again (.builtin "set.update.loop" ⟨[.ref S, .ref I], []⟩)) (fun fin s' => match fin with | .done f => R (.ok f) s' | .again c' => c'.quiet = true ∧ codeAny (model P w) A c' R s') (fun e s' => R (.error e) s') { s1 with heap := h', toks := s1.toks + 1 } := by
      intro b h' D' T' kp
      refine wpAny_pure ⟨plainId_quiet PyProof.Rows.F.plain_set_update_loop _, ih (i + 1) _ _ D' (by omega) lt (W.frame _ s1 _ _ st1 (Nat.le_succ _) fun b hb o e => kp b o (fun z => hSf (z ▸ hb)) e) T' ?_ hb fun s2 D2 l2 mv2 T2 hl2 => ?_⟩
      · split
        · omega
        · rw [List.length_cons]; omega
      · refine fin s2 D2 l2 (Moved.trans W.gtrans ((mv.mono fun b hb => List.mem_cons_of_mem _ hb).then_heap (Nat.le_succ _) fun b o hb e => kp b o (fun z => hb (z ▸ List.mem_cons_self)) e) mv2) T2 ?_
        rw [dr, dedT]; exact hl2
    by_cases hk : xs.getD i Str.empty ∈ l
    · have q := go false s1.heap D (by rw [if_pos hk]; exact T1) fun b o _ e => e
      exact add_seen (s := { s1 with toks := s1.toks + 1 }) T1 hk (by omega) q
    · have q := go true _ _ (by rw [if_neg hk]; exact T1.add t hk) fun b o n e => put_old n e
      exact add_x (s := { s1 with toks := s1.toks + 1 }) T1.ob T1.ok hk (by omega) q
end

theorem new_led (a : Value) {Q1 : Value → Shared → Prop} (h : Q1 (.ref s.heap.objs.size) { s with heap := s.heap.push (sObj "set" (#[], 0, .fresh 0 0 (!w.params.followText "set-order"))) }) : codeAny (model P w) A (.call (.builtin "set.__new__") ⟨[.type "set", a], []⟩) (wants Q1 E) s := by
  refine codeAny_of_tree ?_
  show wpAny _ A.in1 (checkBuiltinCall "set.__new__" ⟨[.type "set", a], []⟩ >>= fun _ => again (.builtin "set.__new__" ⟨[.type "set", a], []⟩)) _ _ s
  refine wpAny_bind (wpAny_of_eq (PySem.F.newCall_set_1 a) (wpAny_pure ⟨plainId_quiet PySem.F.plain_set_new _, codeAny_builtin PySem.F.entry_set_new ?_⟩))
  rw [Around.under_plainId PySem.F.plain_set_new _]
  have z := sub_set_self
  obtain ⟨hp, g, d, tk, os⟩ := s
  unfold Builtin.«set.__new__» Builtin.Frozenset.newClass
  dsimp only
  wp_walk
  refine wpAny_askSetting (wpAny_pure ?_)
  dsimp only
  simp only [newObj]
  exact wpAny_bind (wpAny_alloc (wpAny_pure (wpAny_pure h)))
theorem fresh_T (h : Heap) : TSet P w (h.push (sObj "set" (#[], 0, .fresh 0 0 (!w.params.followText "set-order")))) h.objs.size [] (#[], 0, .fresh 0 0 (!w.params.followText "set-order")) where
  ob := Heap.get?_push_size _ rfl
  ok := TxOk.nil rfl
  nd := List.nodup_nil
  tx := fun e he => by simp at he
  ris := List.Pairwise.nil
  led := by
    cases z : w.params.followText "set-order"
    · exact .inr (by simp [SetTable.fresh])
    · exact .inl rfl
/-- set(l), l a list of texts -/
theorem call_setT {l : Addr} {items : Array Value} {xs : List Str} {Q : Value → Shared → Prop} (hh : A.handled = none) (hl : s.heap.IsList l items) (hi : StrsAre items.toList xs) (hb : xs.length + 1 < scanBound)
    (h : ∀ (h' : Heap) (tk : Nat) (D : SD), TSet P w h' s.heap.objs.size (dedT [] xs) D → (∀ b o, b < s.heap.objs.size → s.heap.get? b = some o → h'.get? b = some o) → Q (.ref s.heap.objs.size) { s with heap := h', toks := tk }) :
    wpAny (model P w) A (call (.type "set") [.ref l]) Q E s := by
  have c1 := PySem.F.called_set.mro
  have c2 := PySem.F.called_set.made
  have c3 := PySem.F.called_set.sub
  have c4 := PySem.F.called_set.notType
  have c5 := PySem.F.called_set.canCreate
  have c6 := PySem.F.typeCall_set_1 (.ref l)
  obtain ⟨c0, tl, c1⟩ := c1
  refine wpAny_call (codeAny_of_tree (show wpAny _ _ (callAny (.type "set") _) _ _ _ from wpAny_pure ⟨Code.quiet_builtin _ (by decide +kernel), codeAny_builtin PySem.F.entry_type_call ?_⟩))
  rw [Around.under_plain (weight_type_call_type "set" [.ref l] []) rfl]
  repeat any_goals (first | assumption | wp_step)
  refine codeAny_mono (new_led (.ref l) (E := E) (Q1 := fun obj s1 => obj = .ref s.heap.objs.size ∧ ∃ led, led = (!w.params.followText "set-order") ∧ s1 = { s with heap := s.heap.push { cls := .type "set", dict := none, data := .set #[] 0 (.fresh 0 0 led) } }) ⟨rfl, _, rfl, rfl⟩) fun r s1 hr => ?_
  cases r with
  | error e => exact hr
  | ok fl =>
    cases fl with
    | ret obj =>
      obtain ⟨rfl, led, hled, rfl⟩ := hr
      have T0 : TSet P w (s.heap.push { cls := .type "set", dict := none, data := .set #[] 0 (.fresh 0 0 led) }) s.heap.objs.size [] (#[], 0, .fresh 0 0 led) := by rw [hled]; exact fresh_T s.heap
      have ob0 : (s.heap.push { cls := .type "set", dict := none, data := .set #[] 0 (.fresh 0 0 led) }).get? s.heap.objs.size = some { cls := .type "set", dict := none, data := .set #[] 0 (.fresh 0 0 led) } := T0.ob
      have ty : Shared.TypeIs { s with heap := s.heap.push { cls := .type "set", dict := none, data := .set #[] 0 (.fresh 0 0 led) } } (.ref s.heap.objs.size) "set" := ⟨_, ob0, rfl⟩
      have b1 := PySem.F.called_set.init.lookup
      have b2 := PySem.F.called_set.init.bind (.ref s.heap.objs.size)
      repeat any_goals (first | assumption | wp_step)
      refine codeAny_mono (codeAny_call_builtin (R := wants (fun r s2 => r = .none ∧ ∃ h' tk D, s2 = { s with heap := h', toks := tk } ∧ TSet P w h' s.heap.objs.size (dedT [] xs) D ∧ ∀ b o, b < s.heap.objs.size → s.heap.get? b = some o → h'.get? b = some o) E)
        PySem.F.called_set.init.plain PySem.F.entry_set_init (check_set_init_1 ty ?_)) fun r2 s2 hr2 => ?_
      · obtain ⟨ol, ol1, ol2, nl, ol3⟩ := hl
        obtain ⟨q1, q2, q3, q4⟩ := ol
        dsimp only at ol2 ol3
        subst ol2 ol3
        have lS : l < s.heap.objs.size := Heap.lt_size ol1
        have at1 : (s.heap.push { cls := .type "set", dict := none, data := .set #[] 0 (.fresh 0 0 led) }).get? l = some { cls := .type "list", dict := q2, data := .seq items nl, slots := q4 } := Heap.get?_push_of_some _ ol1
        have at2 : (s.heap.push { cls := .type "set", dict := none, data := .set #[] 0 (.fresh 0 0 led) }).IsList l items := ⟨_, at1, rfl, nl, rfl⟩
        have s1 := PySem.F.sub_list_set
        have s2 := PySem.F.sub_list_frozenset
        have s3 : (Value.type "list" == Value.type "dict") = false := by decide
        unfold Builtin.«set.__init__» noKeywords Builtin.Frozenset.updateFrom
        generalize hPI : pyIter = PI
        wp_walk
        subst hPI
        refine wpAny_pyIter_list at2 ?_
        refine wpAny_bind (wpAny_runValue ?_)
        have size1 : (s.heap.push { cls := .type "set", dict := none, data := .set #[] 0 (.fresh 0 0 led) }).objs.size = s.heap.objs.size + 1 := Heap.size_push ..
        have lI : l ≠ (s.heap.push { cls := .type "set", dict := none, data := .set #[] 0 (.fresh 0 0 led) }).objs.size := by rw [size1]; exact Nat.ne_of_lt (Nat.lt_succ_of_lt lS)
        have nofp : s.heap.objs.size ∉ [(s.heap.push { cls := .type "set", dict := none, data := .set #[] 0 (.fresh 0 0 led) }).objs.size, l] := by
          simp only [List.mem_cons, List.not_mem_nil, or_false, not_or]
          exact ⟨by rw [size1]; exact Nat.ne_of_lt (Nat.lt_succ_self _), Nat.ne_of_gt lS⟩
        have len : xs.length = items.size := by rw [← StrsAre.len_eq hi, Array.length_toList]
        refine loopT (Walks.list (by simp [hh]) _ l lI items).toS s.heap.objs.size nofp xs len (fun i v hv => SS.strs_at hi i v (by rw [Array.getElem?_toList]; exact hv)) (items.size - 0) 0 _ [] (#[], 0, .fresh 0 0 led) (by omega) (Nat.zero_le _)
          ⟨⟨_, Heap.get?_push_size _ rfl, rfl, rfl⟩, at2.push _⟩ ⟨Heap.get?_push_of_some _ T0.ob, T0.ok, T0.nd, T0.tx, T0.ris, T0.led⟩ (Nat.zero_le _) (by omega) ?_
        rintro s' D' l' mv T' rfl
        obtain ⟨h', g', d', tk', os'⟩ := s'
        obtain rfl : g' = s.gens := mv.gens
        obtain rfl : d' = s.drawn := mv.drawn
        obtain rfl : os' = s.os := mv.os
        show wpAny _ _ _ _ _ _
        refine wpAny_pure (show wpAny _ _ (ret Value.none) _ _ _ from wpAny_pure ⟨rfl, h', tk', D', rfl, T', fun b o hb e => ?_⟩)
        refine mv.heap b o ?_ (Heap.get?_push_of_some _ (Heap.get?_push_of_some _ e))
        simp only [List.mem_cons, List.not_mem_nil, or_false, not_or]
        exact ⟨Nat.ne_of_lt hb, by rw [size1]; exact Nat.ne_of_lt (Nat.lt_succ_of_lt hb)⟩
      · cases r2 with
        | error e => exact hr2
        | ok f2 =>
          cases f2 with
          | ret r =>
            obtain ⟨rfl, h', tk, D, rfl, T', kp⟩ := hr2
            repeat any_goals (first | assumption | wp_step)
            exact h _ _ D T' kp
          | _ => exact hr2.elim
    | _ => exact hr.elim
end L3T
namespace L3
open PySem PySem.Spec PyProof.Rows L2 L3T
/-- the set of texts at a -/
def SetT (P : Program) (w : World) (a : Addr) (l : List Str) : HO := .ext fun h => ∃ D, TSet P w h a l D
theorem tset_at {P : Program} {w : World} {h h' : Heap} {a : Addr} {l : List Str} (R : ∃ D, TSet P w h a l D) (k : ∀ o, h.get? a = some o → h'.get? a = some o) : ∃ D, TSet P w h' a l D :=
  let ⟨D, T⟩ := R
  ⟨D, k _ T.ob, T.ok, T.nd, T.tx, T.ris, T.led⟩
def rSetT (K : PySem.W.Frag) (P : Program) (w : World) : List V → Hp → VK → Prop := fun vs H Q => ∃ (a : Addr) (ss : List Str), vs = [V.ref a] ∧ SqL K H a (ss.map V.str) ∧ ss.length + 1 < scanBound ∧ ∀ p, H p = none → Q (.ref p) (upd H p (SetT P w p (dedT [] ss)))
def rSortedT (P : Program) (w : World) : List V → Hp → VK → Prop := fun vs H Q => ∃ (a : Addr) (l : List Str), vs = [V.ref a] ∧ H a = some (SetT P w a l) ∧ l.length < 1000 ∧ ∀ (ys : List Str) (p : Addr), ys.Perm l → (ys.map PyData.str).Pairwise (fun a b => PySem.W.dataLe false id a b = true) → H p = none → Q (.ref p) (upd H p (.lst (ys.map V.str)))
theorem setT_new {P : Program} {w : World} {H : Hp} {h : Heap} {a : Addr} {l : List Str} (R : ∃ D, TSet P w h a l D) : ObjOk P w H h a (SetT P w a l) := ⟨R, let ⟨_, T⟩ := R; ⟨_, T.ob⟩, fun h1 h2 p k => tset_at p k⟩

section
variable {X : Cx}
theorem cr_setT (hc : X.calm = true) : CallR X (.type "set") (rSetT X.K X.prog X.w) := by
  intro pins s σ H vs us Q I r h
  obtain ⟨a, ss, rfl, hs, hb, q⟩ := h
  obtain ⟨its, rv, hl, hz⟩ := I.list hs
  rw [Vals.ref1 r]
  refine call_setT (P := X.prog) (w := X.w) (I.ok.hd hc) hl.isList (by simpa using strsAre_of rv) hb fun h' tk D T kp => ?_
  have k : ∀ b o, s.heap.get? b = some o → h'.get? b = some o := fun b o e => kp b o (Heap.lt_size e) e
  exact ⟨.ref _, _, I.laid (t' := tk) k (Nat.le_refl _) (setT_new ⟨D, T⟩), rfl, q _ (I.hok.fresh (Nat.le_refl _))⟩
theorem str_reads {h : Heap} : ∀ {l : List Value}, (∀ v ∈ l, ∃ k tk, v = Value.str k tk) → ∃ ys : List Str, StrsAre l ys ∧ PySem.W.EachIs (fun v y => ∃ as, Reads h v (PyData.str y) as) l ys ∧ PySem.W.EachIs (fun v y => RelV (.str y) v) l ys
  | [], _ => ⟨[], .nil, .nil, .nil⟩
  | v :: l, h => by
    obtain ⟨k, tk, rfl⟩ := h v List.mem_cons_self
    obtain ⟨ys, a, b, c⟩ := str_reads fun u hu => h u (List.mem_cons_of_mem _ hu)
    exact ⟨k :: ys, .cons k tk a, .cons ⟨_, Reads.str k tk⟩ b, .cons ⟨tk, rfl⟩ c⟩
theorem each_vals : ∀ {us : List Value} {ys : List Str}, PySem.W.EachIs (fun v y => RelV (.str y) v) us ys → Vals (ys.map V.str) us
  | [], _, h => by cases h; exact .nil
  | _ :: _, _, h => by
    cases h with
    | cons a b => exact .cons a (each_vals b)
theorem alike_strs (ys : List Str) : PySem.W.AllAlike (ys.map PyData.str) := fun d hd d' hd' => by
  obtain ⟨a, _, rfl⟩ := List.mem_map.mp hd
  obtain ⟨b, _, rfl⟩ := List.mem_map.mp hd'
  rfl
theorem sortable_strs (ys : List Str) : PySem.W.Sortable (ys.map PyData.str) := .inr fun d hd => by
  obtain ⟨a, _, rfl⟩ := List.mem_map.mp hd
  exact And.intro (fun z => nomatch z) (fun xs z => nomatch z)
theorem perm_of_sub {α : Type} [DecidableEq α] : ∀ {l m : List α}, l.Nodup → (∀ x ∈ l, x ∈ m) → m.length ≤ l.length → l.Perm m
  | [], m, _, _, h => by
    obtain rfl := List.length_eq_zero_iff.mp (Nat.le_zero.mp h)
    exact List.Perm.refl _
  | x :: l, m, nd, s, h => by
    obtain ⟨n1, n2⟩ := List.nodup_cons.mp nd
    have hx := s x List.mem_cons_self
    refine .trans (.cons x (perm_of_sub n2 (fun y hy => ?_) ?_)) (List.perm_cons_erase hx).symm
    · exact (List.mem_erase_of_ne (fun (z : y = x) => n1 (by rw [← z]; exact hy))).mpr (s y (List.mem_cons_of_mem _ hy))
    · rw [List.length_erase_of_mem hx, List.length_cons] at *; omega
theorem cr_sortedT (hc : X.calm = true) (hu : X.A.units + 65 < cLine) : CallR X (.builtin "sorted") (rSortedT X.prog X.w) := by
  intro pins s σ H vs us Q I r h
  obtain ⟨a, l, rfl, ha, hl, q⟩ := h
  obtain ⟨D, T⟩ := (I.hok a _ ha).1
  rw [Vals.ref1 r]
  refine Calls.call_function_entry kind_sorted plain_sorted entry_sorted (args_sorted1 _) ?_
  unfold Builtin.«sorted»
  refine wpAny_bind (m := checkCount "sorted" 1 1 _) (wpAny_pure ?_)
  have sb : scanBound = 4096 := by decide +kernel
  have ez : D.1.size = l.length := T.ok.sz
  refine wpAny_bind (collect_set (A := X.A.in1) (I.ok.hd hc) ⟨_, T.ob, rfl, rfl⟩ T.ok.fit (by rw [ez, sb]; omega) T.ris T.led fun s1 vs k1 hz g1 o1 pm => ?_)
  obtain ⟨ys, sy, er, ev⟩ := str_reads (h := s1.heap.push (seqObj "list" vs.toArray 0)) (l := vs) fun v hv => by
    obtain ⟨e, he, z⟩ := List.mem_map.mp (pm.mem_iff.mp hv)
    obtain ⟨k, tk, h1⟩ := T.tx e he
    exact ⟨k, tk, by rw [← z]; exact h1⟩
  have ely : ys.length = vs.length := ev.length.symm
  have elv : vs.length = l.length := by rw [pm.length_eq, List.length_map, Array.length_toList, ez]
  have py : ys.Perm l := by
    refine (perm_of_sub T.nd (fun k hk => ?_) (by omega)).symm
    obtain ⟨e, he, hi⟩ := (T.ok.mem k).mp hk
    obtain ⟨k', tk, h1⟩ := T.tx e he
    have hk' : k = k' := by rw [h1] at hi; exact (by simpa [PySem.strKind, Value.isStrOf] using hi : k' = k).symm
    subst hk'
    have hv : e.2 ∈ vs := pm.mem_iff.mpr (List.mem_map.mpr ⟨e, he, rfl⟩)
    obtain ⟨y, hy, tk', hr⟩ := ev.left _ hv
    rw [h1] at hr
    cases hr
    exact hy
  refine wpAny_bind (wpAny_newList ?_ (by rw [elv, sizeLine_eq]; omega))
  have hoL : (s1.heap.push (seqObj "list" vs.toArray 0)).get? s1.heap.objs.size = some (seqObj "list" vs.toArray 0) := Heap.get?_push_size _ rfl
  refine wpAny_bind (wpAny_holding (PySem.W.list_sort_data (enc := PyData.str) (R := fun v y => RelV (.str y) v) hoL ev (er.mono fun v y ⟨as, z⟩ => by cases z; exact ⟨_, Reads.str _ _, by simp⟩) (alike_strs ys) (sortable_strs ys) (by rw [ely, elv, sizeLine_eq]; omega) (fun b _ => ?_) fun out ho eo => ?_))
  · have : (PyData.str b).depth = 0 := by simp [PyData.depth]
    rw [this]
    have e1 : X.A.in1.units = X.A.units + 1 := rfl
    omega
  · obtain ⟨c, hc'⟩ := sortedHeap_at (vs := vs) (out := out.toArray) hoL
    have kk : ∀ b u, s.heap.get? b = some u → (sortedHeap (s1.heap.push (seqObj "list" vs.toArray 0)) s1.heap.objs.size vs out.toArray).get? b = some u := fun b u e => by
      have l1 := Heap.lt_size (k1 b u e)
      rw [sortedHeap_old (Nat.ne_of_lt l1) (by rw [size_push']; exact Nat.lt_succ_of_lt l1)]
      exact Heap.get?_push_of_some _ (k1 b u e)
    have hn := I.hok.fresh hz
    have hlen : ((ys.mergeSort (PySem.W.dataLe false PyData.str)).map V.str).length ≤ sizeLine := by rw [List.length_map, List.length_mergeSort, ely, elv, sizeLine_eq]; omega
    obtain ⟨hp1, gg, dd, tt, oo⟩ := s1
    dsimp only at g1 o1
    have J : Inv X pins σ (upd H hp1.objs.size (.lst ((ys.mergeSort (PySem.W.dataLe false PyData.str)).map V.str))) _ := I.call (ch := []) (g' := gg) (d' := dd) (t' := tt) (Un.laid kk hz hn) (I.hok.laid kk hz ⟨hlen, out, c, each_vals eo, hc'⟩) (by rw [g1]; exact I.bare) (fun _ z => nomatch z)
    rw [← o1] at J
    refine wpAny_pure ⟨_, rfl, .ref _, _, J, rfl, q _ _ ((List.mergeSort_perm _ _).trans py) ?_ hn⟩
    have pw := PySem.W.sort_pairwise (PySem.W.sortLe_total (listOrd itemOrd) false fun b : Str => PySem.W.keyToks (PyData.str b)) ys
    exact List.pairwise_map.mpr pw
/-- sorted(set(texts)) -/
theorem strs_pw {ys : List Str} (h : (ys.map PyData.str).Pairwise (fun a b => PySem.W.dataLe false id a b = true)) (nd : ys.Nodup) : ys.Pairwise fun a b => a.cps.toList < b.cps.toList := by
  refine (List.Pairwise.and (List.pairwise_map.mp h) nd).imp ?_
  rintro a b ⟨h1, h2⟩
  have z : PySem.W.dataLt (.str b) (.str a) = false := by
    have : (!PySem.W.dataLt (.str b) (.str a)) = true := h1
    simpa using this
  rw [PySem.W.dataLt_str] at z
  have z := of_decide_eq_false z
  have hne : a.cps.toList ≠ b.cps.toList := fun e => h2 (PySem.W.str_of_cps e)
  by_cases q : a.cps.toList < b.cps.toList
  · exact q
  · exact absurd (List.le_antisymm (List.not_lt.mp z) (List.not_lt.mp q)) hne
end
section
variable {X : Cx} {w : Wi} {Γ : Ga} {M : Mm} {Q : D → Mm → Prop} {a : Expr} {pos p p1 p2 : Pos} {k : Nat} {n : Nm}
theorem boot_set : bootBuiltins ("set" : Str) = some (.type "set") := by kernel_rfl
theorem dedT_nd : ∀ {r acc : List Str}, acc.Nodup → (dedT acc r).Nodup
  | [], _, h => h
  | x :: r, acc, h => by
    rw [dedT]
    split
    · exact dedT_nd h
    · rename_i z
      exact dedT_nd (List.nodup_cons.mpr ⟨z, h⟩)
theorem dedT_len : ∀ {r acc : List Str}, (dedT acc r).length ≤ acc.length + r.length
  | [], _ => Nat.le_refl _
  | x :: r, acc => by
    rw [dedT]
    refine Nat.le_trans dedT_len ?_
    rw [List.length_cons]
    split
    · omega
    · rw [List.length_cons]; omega
theorem de_sortSet (S : Sc X k n) (hs : starEach [a] X.env = [(false, eval a X.env)]) (hs2 : starEach [Expr.Call (.Name "set" p1) [a] [] p2] X.env = [(false, eval (Expr.Call (.Name "set" p1) [a] [] p2) X.env)]) (hx : ("sorted" : Str) ∈ n.glb) (hb : ("sorted" : Str) ∈ n.bts) (hx2 : ("set" : Str) ∈ n.glb) (hb2 : ("set" : Str) ∈ n.bts)
    (h : DE X w a Γ M fun d M1 => ∃ ss : List Str, d = .lst (ss.map .str) ∧ ss.length < 1000 ∧ ∀ ys : List Str, ys.Nodup → (∀ z, z ∈ ys ↔ z ∈ ss) → (ys.Pairwise fun a b => a.cps.toList < b.cps.toList) → Q (.lst (ys.map .str)) M1) : DE X w (.Call (.Name "sorted" p) [.Call (.Name "set" p1) [a] [] p2] [] pos) Γ M Q := .mk fun F σ H Hb A => by
  have e0 : PE X (.Call (.Name "set" p1) [a] [] p2) _ := pe_callTy (cr_setT S.calm) (S.gl _ hx2).1 (S.bt _ hb2) boot_set (pa_cons semE_ok pa_nil hs) (okN_n (S.gl _ hx2).2) (okN_d (S.gl _ hx2).2) hs rfl
  have e1 : PE X (.Call (.Name "sorted" p) [.Call (.Name "set" p1) [a] [] p2] [] pos) _ := pe_callB (cr_sortedT S.calm S.u65) (S.gl _ hx).1 (S.bt _ hb) boot_sorted (pa_cons e0 pa_nil hs2) (okN_n (S.gl _ hx).2) (okN_d (S.gl _ hx).2) hs2 rfl
  refine semE_of e1 ?_
  refine semE_mono (h.run F σ H Hb A) fun v H1 ⟨Hb1, d, M1, ex, A1, r, ss, hd, hl, q⟩ => ?_
  subst hd
  cases r with
  | @lst l vs _ hb1 rs =>
    have sb : scanBound = 4096 := by decide +kernel
    refine ⟨l, ss, rfl, by rw [← reps_strs rs]; exact SqL.of (A1.hs.ex _ _ hb1), by rw [sb]; omega, fun p0 h0 => ?_⟩
    have A2 := A1.junk h0 (SetT X.prog X.w p0 (dedT [] ss))
    refine ⟨p0, dedT [] ss, rfl, upd_same, by have := dedT_len (r := ss) (acc := []); simp at this; omega, fun ys p3 pm pw h3 => ?_⟩
    have nd : ys.Nodup := pm.nodup_iff.mpr (dedT_nd List.nodup_nil)
    exact A2.lst ex of_strs h3 (q ys nd (fun z => by rw [pm.mem_iff, dedT_mem]; simp) (strs_pw pw nd))
end
end L3
namespace L3
open PySem PySem.Spec PyProof.Rows L2
/-! ### 53. The parts of an album, as the law makes them -/
abbrev Part := List Int × List Str
abbrev partD (p : Part) : D := .lst [.lst (p.1.map .int), .lst (p.2.map .str)]
def ltS (a b : Str) : Prop := a.cps.toList < b.cps.toList
def inPart (p : Part) : Key → Prop
  | .inl i => i ∈ p.1
  | .inr s => s ∈ p.2
instance (p : Part) (k : Key) : Decidable (inPart p k) := match k with
  | .inl i => inferInstanceAs (Decidable (i ∈ p.1))
  | .inr s => inferInstanceAs (Decidable (s ∈ p.2))
structure Pts (m : Nat) (E : List (Key × Key)) (ps : List Part) : Prop where
  ne : ∀ p ∈ ps, p.1 ≠ []
  so : ∀ p ∈ ps, p.1.Pairwise (· < ·)
  sn : ∀ p ∈ ps, p.2.Pairwise ltS
  cn : ∀ p ∈ ps, ∀ i ∈ p.1, ∀ k, inPart p k ↔ Conn E (.inl i) k
  cv : ∀ i : Int, 0 ≤ i → i < m → ∃ p ∈ ps, i ∈ p.1
  rg : ∀ p ∈ ps, ∀ i ∈ p.1, 0 ≤ i ∧ i < m
  nd : ps.Nodup
  ok : ∀ p ∈ ps, ∀ s ∈ p.2, PyData.strOk s = true
  eg : ∀ x y, (x, y) ∈ E → (∃ i, x = .inl i ∧ 0 ≤ i ∧ i < m) ∧ ∀ j, y = .inl j → 0 ≤ j ∧ j < m
  s1 : (ps.flatMap (·.1)).length ≤ m
  s2 : (ps.flatMap (·.2)).length ≤ E.length
theorem flat_one {α β : Type} (f : α → List β) (g : α → List β) (h : ∀ a, f a = g a) (l : List α) : l.flatMap f = l.flatMap g := by
  rw [show f = g from funext h]
def pts0 (m : Nat) : List Part := (List.range m).map fun i : Nat => ([(i : Int)], [])
theorem flat_len1 {α : Type} (l : List α) (f : α → List Int) (h : ∀ a, (f a).length = 1) : (l.flatMap f).length = l.length := by
  induction l with
  | nil => rfl
  | cons a l ih => rw [List.flatMap_cons, List.length_append, h, ih, List.length_cons]; omega
theorem pts_start (m : Nat) : Pts m [] (pts0 m) := by
  have mm : ∀ p, p ∈ pts0 m → ∃ i : Nat, i < m ∧ p = ([(i : Int)], []) := fun p hp => by
    obtain ⟨i, hi, rfl⟩ := List.mem_map.mp hp
    exact ⟨i, List.mem_range.mp hi, rfl⟩
  refine ⟨?_, ?_, ?_, ?_, ?_, ?_, ?_, ?_, fun x y h => (nomatch h), ?_, ?_⟩
  · intro p hp; obtain ⟨i, _, rfl⟩ := mm p hp; simp
  · intro p hp; obtain ⟨i, _, rfl⟩ := mm p hp; simp
  · intro p hp; obtain ⟨i, _, rfl⟩ := mm p hp; simp
  · intro p hp i hi k
    obtain ⟨j, _, rfl⟩ := mm p hp
    obtain rfl : i = (j : Int) := by simpa using hi
    constructor
    · intro h
      cases k with
      | inl k => obtain rfl : k = (j : Int) := by simpa [inPart] using h
                 exact .rfl
      | inr k => simp [inPart] at h
    · intro h
      rw [← conn_nil h]
      simp [inPart]
  · intro i h0 h1
    exact ⟨([i], []), List.mem_map.mpr ⟨i.toNat, List.mem_range.mpr (by omega), by simp [Int.toNat_of_nonneg h0]⟩, by simp⟩
  · intro p hp i hi
    obtain ⟨j, hj, rfl⟩ := mm p hp
    obtain rfl : i = (j : Int) := by simpa using hi
    omega
  · unfold pts0
    refine List.pairwise_map.mpr ((List.nodup_range).imp ?_)
    rintro a b h e
    simp only [Prod.mk.injEq, List.cons.injEq, and_true] at e
    exact h (by omega)
  · intro p hp; obtain ⟨i, _, rfl⟩ := mm p hp; simp
  · unfold pts0
    rw [List.flatMap_map, flat_len1 _ _ fun a => rfl, List.length_range]
    exact Nat.le_refl _
  · unfold pts0
    rw [List.flatMap_map]
    simp [Nat.le_zero]
    exact (show ∀ l : List Nat, (l.map fun _ => 0).sum = 0 from fun l => by induction l <;> simp_all) _
section
variable {m : Nat} {E : List (Key × Key)} {ps : List Part} {a b k : Key} {x : Int}
/-- the parts that a tie meets -/
def meets (x : Int) (b : Key) (p : Part) : Bool := decide (x ∈ p.1) || decide (inPart p b)
theorem meets_iff {p : Part} : meets x b p = true ↔ x ∈ p.1 ∨ inPart p b := by simp [meets]
theorem Pts.met (h : Pts m E ps) {p : Part} (hp : p ∈ ps) {i : Int} (hi : i ∈ p.1) : meets x b p = true ↔ Conn E (.inl i) (.inl x) ∨ Conn E (.inl i) b := by
  rw [meets_iff, ← h.cn p hp i hi (.inl x), ← h.cn p hp i hi b]
  rfl
/-- what is tied to a thing of the album is told by a part -/
theorem Pts.tied (h : Pts m E ps) (c : Conn E a k) (e : a ≠ k) : ∃ i, Conn E (.inl i) a ∧ 0 ≤ i ∧ i < m := by
  rcases c.touched with z | ⟨⟨y, z | z⟩, _⟩
  · exact absurd z e
  · obtain ⟨⟨i, rfl, h0, h1⟩, _⟩ := h.eg _ _ z
    exact ⟨i, .rfl, h0, h1⟩
  · obtain ⟨⟨i, rfl, h0, h1⟩, _⟩ := h.eg _ _ z
    exact ⟨i, .edge z, h0, h1⟩
theorem Pts.pic (h : Pts m E ps) {i j : Int} (h0 : 0 ≤ i) (h1 : i < m) (c : Conn E (.inl i) (.inl j)) : 0 ≤ j ∧ j < m := by
  rcases c.touched with z | ⟨_, y, z | z⟩
  · cases z; exact ⟨h0, h1⟩
  · obtain ⟨⟨i, e, h0, h1⟩, _⟩ := h.eg _ _ z
    cases e; exact ⟨h0, h1⟩
  · exact (h.eg _ _ z).2 _ rfl
theorem conn_more2 (h : Conn E k a ∨ Conn E k b) {t : Key} : Conn (E ++ [(a, b)]) k t ↔ Conn E a t ∨ Conn E b t := by
  rw [Conn.more]
  rcases h with h | h
  · constructor
    · rintro (z | ⟨_, z⟩ | ⟨_, z⟩)
      · exact .inl (h.symm.trans z)
      · exact .inr z
      · exact .inl z
    · rintro (z | z)
      · exact .inl (h.trans z)
      · exact .inr (.inl ⟨h, z⟩)
  · constructor
    · rintro (z | ⟨_, z⟩ | ⟨_, z⟩)
      · exact .inr (h.symm.trans z)
      · exact .inr z
      · exact .inl z
    · rintro (z | z)
      · exact .inr (.inr ⟨h, z⟩)
      · exact .inl (h.trans z)
theorem filter_len {α β : Type} (f : α → List β) (p : α → Bool) : ∀ l : List α, ((l.filter fun a => !p a).flatMap f).length + ((l.filter p).flatMap f).length = (l.flatMap f).length
  | [] => rfl
  | a :: l => by
    have ih := filter_len f p l
    cases h : p a <;> simp only [List.filter_cons, h, Bool.not_true, Bool.not_false, Bool.false_eq_true, if_true, if_false, List.flatMap_cons, List.length_append] <;> omega
theorem flat_nd : ∀ l : List Part, l.Nodup → (∀ p ∈ l, p.1.Nodup) → (∀ p ∈ l, ∀ p' ∈ l, ∀ i, i ∈ p.1 → i ∈ p'.1 → p = p') → (l.flatMap (·.1)).Nodup
  | [], _, _, _ => List.nodup_nil
  | p :: l, h1, h2, h3 => by
    obtain ⟨n1, n2⟩ := List.nodup_cons.mp h1
    rw [List.flatMap_cons]
    refine List.nodup_append.mpr ⟨h2 p List.mem_cons_self, flat_nd l n2 (fun p hp => h2 p (List.mem_cons_of_mem _ hp)) (fun a ha b hb => h3 a (List.mem_cons_of_mem _ ha) b (List.mem_cons_of_mem _ hb)), fun i hi j hj e => ?_⟩
    subst e
    obtain ⟨p', hp', hi'⟩ := List.mem_flatMap.mp hj
    exact n1 (h3 p List.mem_cons_self p' (List.mem_cons_of_mem _ hp') i hi hi' ▸ hp')
/-- a tie joins the parts that it meets -/
theorem Pts.step (h : Pts m E ps) (h0 : 0 ≤ x) (h1 : x < m) (hb : ∀ j, b = .inl j → 0 ≤ j ∧ j < m) (okb : ∀ s, b = .inr s → PyData.strOk s = true) {q : Part}
    (q1 : q.1.Perm ((ps.filter (meets x b)).flatMap (·.1))) (q2 : q.1.Pairwise (· ≤ ·)) (q3 : q.2.Pairwise ltS) (q5 : q.2.Nodup) (q4 : ∀ s, s ∈ q.2 ↔ b = .inr s ∨ s ∈ (ps.filter (meets x b)).flatMap (·.2)) :
    Pts m (E ++ [(.inl x, b)]) ((ps.filter fun p => !meets x b p) ++ [q]) := by
  have uq : ∀ p ∈ ps, ∀ p' ∈ ps, ∀ i, i ∈ p.1 → i ∈ p'.1 → p = p' := fun p hp p' hp' i hi hi' => by
    have e1 : p.1 = p'.1 := strict_uniq (h.so p hp) (h.so p' hp') fun j => ((h.cn p hp i hi (.inl j)).trans (h.cn p' hp' i hi' (.inl j)).symm)
    have e2 : p.2 = p'.2 := by
      refine List.Perm.eq_of_pairwise (le := ltS) (fun a b _ _ u v => absurd v (List.lt_asymm u)) (h.sn p hp) (h.sn p' hp') ?_
      refine (List.perm_ext_iff_of_nodup ((h.sn p hp).imp fun u e => ?_) ((h.sn p' hp').imp fun u e => ?_)).mpr fun s => ((h.cn p hp i hi (.inr s)).trans (h.cn p' hp' i hi' (.inr s)).symm)
      · rw [e] at u; exact List.lt_irrefl _ u
      · rw [e] at u; exact List.lt_irrefl _ u
    exact Prod.ext e1 e2
  have inq1 : ∀ j, j ∈ q.1 ↔ ∃ p ∈ ps, meets x b p = true ∧ j ∈ p.1 := fun j => by
    rw [q1.mem_iff, List.mem_flatMap]
    simp only [List.mem_filter, and_assoc]
  have inq2 : ∀ s, s ∈ q.2 ↔ b = .inr s ∨ ∃ p ∈ ps, meets x b p = true ∧ s ∈ p.2 := fun s => by
    rw [q4, List.mem_flatMap]
    simp only [List.mem_filter, and_assoc]
  have ndq : q.1.Nodup := by
    rw [q1.nodup_iff]
    exact flat_nd _ (h.nd.filter _) (fun p hp => (h.so p (List.mem_filter.mp hp).1).imp fun u e => by omega) fun p hp p' hp' i hi hi' => uq p (List.mem_filter.mp hp).1 p' (List.mem_filter.mp hp').1 i hi hi'
  have key : ∀ i ∈ q.1, ∀ k, inPart q k ↔ Conn (E ++ [(.inl x, b)]) (.inl i) k := by
    intro i hi k
    obtain ⟨p, hp, hm, hip⟩ := (inq1 i).mp hi
    rw [conn_more2 ((h.met hp hip).mp hm)]
    constructor
    · intro hk
      cases k with
      | inl j =>
        obtain ⟨p', hp', hm', hj⟩ := (inq1 j).mp hk
        exact ((h.met hp' hj).mp hm').imp Conn.symm Conn.symm
      | inr s =>
        rcases (inq2 s).mp hk with rfl | ⟨p', hp', hm', hs⟩
        · exact .inr .rfl
        · obtain ⟨j, hj⟩ : ∃ j, j ∈ p'.1 := List.exists_mem_of_ne_nil _ (h.ne p' hp')
          have c := (h.cn p' hp' j hj (.inr s)).mp hs
          exact ((h.met hp' hj).mp hm').imp (fun z => z.symm.trans c) fun z => z.symm.trans c
    · intro c
      have go : ∀ j : Int, 0 ≤ j → j < m → (Conn E (.inl j) (.inl x) ∨ Conn E (.inl j) b) → Conn E (.inl j) k → inPart q k := fun j j0 j1 z cj => by
        obtain ⟨p', hp', hj⟩ := h.cv j j0 j1
        have hm' := (h.met hp' hj).mpr z
        have hk := (h.cn p' hp' j hj k).mpr cj
        cases k with
        | inl k => exact (inq1 k).mpr ⟨p', hp', hm', hk⟩
        | inr k => exact (inq2 k).mpr (.inr ⟨p', hp', hm', hk⟩)
      rcases c with c | c
      · exact go x h0 h1 (.inl .rfl) c
      · by_cases e : b = k
        · subst e
          cases hbk : b with
          | inl j => exact hbk ▸ go j (hb j hbk).1 (hb j hbk).2 (.inr (hbk ▸ .rfl)) (hbk ▸ .rfl)
          | inr s => exact (inq2 s).mpr (.inl hbk)
        · obtain ⟨j, cj, j0, j1⟩ := h.tied c e
          exact go j j0 j1 (.inr cj) (cj.trans c)
  have old : ∀ p ∈ ps, meets x b p = false → ∀ i ∈ p.1, ∀ k, inPart p k ↔ Conn (E ++ [(.inl x, b)]) (.inl i) k := fun p hp hm i hi k => by
    have nm : ¬ (Conn E (.inl i) (.inl x) ∨ Conn E (.inl i) b) := fun z => by
      rw [(h.met hp hi).mpr z] at hm; cases hm
    rw [h.cn p hp i hi k, Conn.more]
    exact ⟨.inl, fun z => z.elim id fun z => z.elim (fun z => absurd (.inl z.1) nm) fun z => absurd (.inr z.1) nm⟩
  have mem : ∀ p, p ∈ (ps.filter fun p => !meets x b p) ++ [q] → (p ∈ ps ∧ meets x b p = false) ∨ p = q := fun p hp => by
    rcases List.mem_append.mp hp with hp | hp
    · obtain ⟨h1, h2⟩ := List.mem_filter.mp hp
      exact .inl ⟨h1, by simpa using h2⟩
    · exact .inr (List.mem_singleton.mp hp)
  refine ⟨?_, ?_, ?_, ?_, ?_, ?_, ?_, ?_, ?_, ?_, ?_⟩
  · intro p hp
    rcases mem p hp with ⟨hp, _⟩ | rfl
    · exact h.ne p hp
    · obtain ⟨p', hp', hx⟩ := h.cv x h0 h1
      exact List.ne_nil_of_mem ((inq1 x).mpr ⟨p', hp', meets_iff.mpr (.inl hx), hx⟩)
  · intro p hp
    rcases mem p hp with ⟨hp, _⟩ | rfl
    · exact h.so p hp
    · exact strict_of q2 ndq
  · intro p hp
    rcases mem p hp with ⟨hp, _⟩ | rfl
    · exact h.sn p hp
    · exact q3
  · intro p hp
    rcases mem p hp with ⟨hp, hm⟩ | rfl
    · exact old p hp hm
    · exact key
  · intro i i0 i1
    obtain ⟨p, hp, hi⟩ := h.cv i i0 i1
    cases hm : meets x b p with
    | false => exact ⟨p, List.mem_append_left _ (List.mem_filter.mpr ⟨hp, by simp [hm]⟩), hi⟩
    | true => exact ⟨q, List.mem_append_right _ (by simp), (inq1 i).mpr ⟨p, hp, hm, hi⟩⟩
  · intro p hp i hi
    rcases mem p hp with ⟨hp, _⟩ | rfl
    · exact h.rg p hp i hi
    · obtain ⟨p', hp', _, hi'⟩ := (inq1 i).mp hi
      exact h.rg p' hp' i hi'
  · refine List.nodup_append.mpr ⟨h.nd.filter _, by simp, fun p hp p' hp' e => ?_⟩
    obtain rfl := List.mem_singleton.mp hp'
    subst e
    obtain ⟨hp, hm⟩ := List.mem_filter.mp hp
    obtain ⟨i, hi⟩ := List.exists_mem_of_ne_nil _ (h.ne p hp)
    obtain ⟨p', hp', hm', hi'⟩ := (inq1 i).mp hi
    rw [uq p hp p' hp' i hi hi', hm'] at hm
    simp at hm
  · intro p hp s hs
    rcases mem p hp with ⟨hp, _⟩ | rfl
    · exact h.ok p hp s hs
    · rcases (inq2 s).mp hs with e | ⟨p', hp', _, hs'⟩
      · exact okb s e
      · exact h.ok p' hp' s hs'
  · intro y z hyz
    rcases List.mem_append.mp hyz with hyz | hyz
    · exact h.eg y z hyz
    · obtain ⟨rfl, rfl⟩ := Prod.mk.inj (List.mem_singleton.mp hyz)
      exact ⟨⟨x, rfl, h0, h1⟩, hb⟩
  · rw [List.flatMap_append, List.length_append, List.flatMap_cons, List.flatMap_nil, List.append_nil, q1.length_eq]
    have := filter_len (fun p : Part => p.1) (meets x b) ps
    have := h.s1
    omega
  · rw [List.flatMap_append, List.length_append, List.flatMap_cons, List.flatMap_nil, List.append_nil, List.length_append, List.length_singleton]
    have z := filter_len (fun p : Part => p.2) (meets x b) ps
    have z2 := h.s2
    have : q.2.length ≤ ((ps.filter (meets x b)).flatMap (·.2)).length + 1 := by
      cases hbk : b with
      | inl j =>
        have := nodup_len (f := (ps.filter (meets x b)).flatMap (·.2)) q5 fun s hs => (q4 s).mp hs |>.elim (fun z => by rw [hbk] at z; cases z) id
        rw [hbk] at this
        omega
      | inr s =>
        have := nodup_len (f := s :: (ps.filter (meets x b)).flatMap (·.2)) q5 fun s' hs => (q4 s').mp hs |>.elim (fun z => by rw [hbk] at z; cases z; exact List.mem_cons_self) (List.mem_cons_of_mem _)
        rw [List.length_cons, hbk] at this
        omega
    omega
end

/-! ### the parts as data -/
theorem eqs_ints : ∀ {l l' : List Int}, PyData.eqvAll (D.pys (l.map .int)) (D.pys (l'.map .int)) = decide (l = l')
  | [], [] => by simp [eqs_nil]
  | [], _ :: _ => by rw [List.map_nil, List.map_cons, eqs_0c]; simp
  | _ :: _, [] => by rw [List.map_nil, List.map_cons, eqs_c0]; simp
  | a :: l, b :: l' => by
    rw [List.map_cons, List.map_cons, eqs_cons, eq_ii, eqs_ints, ← Bool.decide_and]
    congr 1
    simp
theorem eqs_strs : ∀ {l l' : List Str}, PyData.eqvAll (D.pys (l.map .str)) (D.pys (l'.map .str)) = decide (l = l')
  | [], [] => by simp [eqs_nil]
  | [], _ :: _ => by rw [List.map_nil, List.map_cons, eqs_0c]; simp
  | _ :: _, [] => by rw [List.map_nil, List.map_cons, eqs_c0]; simp
  | a :: l, b :: l' => by
    rw [List.map_cons, List.map_cons, eqs_cons, eq_ss, eqs_strs, ← Bool.decide_and]
    congr 1
    simp
theorem eq_parts {p q : Part} : D.eq (partD p) (partD q) = decide (p = q) := by
  rw [eq_ll, eqs_cons, eqs_cons, eqs_nil, eq_ll, eq_ll, eqs_ints, eqs_strs, Bool.and_true, ← Bool.decide_and]
  congr 1
  rw [Prod.ext_iff]
theorem mem_parts {p : Part} : ∀ {l : List Part}, D.mem (partD p) (l.map partD) = decide (p ∈ l)
  | [] => by simp [mem_nil]
  | q :: l => by
    rw [List.map_cons, L3.mem_cons, eq_parts, mem_parts, ← Bool.decide_or]
    congr 1
    simp only [List.mem_cons]
    exact propext ⟨fun h => h.imp Eq.symm id, fun h => h.imp Eq.symm id⟩
theorem mem_part {p : Part} {b : Key} : D.mem (kD b) (p.1.map .int ++ p.2.map .str) = decide (inPart p b) := by
  have go : ∀ {l1 l2 : List D}, D.mem (kD b) (l1 ++ l2) = (D.mem (kD b) l1 || D.mem (kD b) l2) := fun {l1 l2} => by simp [D.mem, List.any_append]
  rw [go]
  cases b with
  | inl i =>
    have z : ∀ l : List Str, D.mem (kD (.inl i)) (l.map .str) = false := fun l => by
      induction l with
      | nil => rfl
      | cons a l ih => rw [List.map_cons, L3.mem_cons, ih]; simp only [kD, eq_str_int]; rfl
    rw [z, Bool.or_false]
    simp only [kD, mem_ints]
    rfl
  | inr s =>
    have z : ∀ l : List Int, D.mem (kD (.inr s)) (l.map .int) = false := fun l => by
      induction l with
      | nil => rfl
      | cons a l ih => rw [List.map_cons, L3.mem_cons, ih]; simp only [kD, eq_int_str]; rfl
    have y : ∀ l : List Str, D.mem (kD (.inr s)) (l.map .str) = decide (s ∈ l) := fun l => by
      induction l with
      | nil => simp [mem_nil]
      | cons a l ih =>
        rw [List.map_cons, L3.mem_cons, ih]
        simp only [kD, eq_ss]
        rw [← Bool.decide_or]
        congr 1
        simp only [List.mem_cons]
        exact propext ⟨fun h => h.imp Eq.symm id, fun h => h.imp Eq.symm id⟩
    rw [z, Bool.false_or, y]
    rfl
theorem oks_ints' {n : Nat} : ∀ {l : List Int}, D.oks n (l.map .int) = true
  | [] => rfl
  | i :: l => by rw [List.map_cons, D.oks, oks_ints']; cases n <;> rfl
theorem ok_part {p : Part} (h : ∀ s ∈ p.2, PyData.strOk s = true) {n : Nat} : D.ok (n + 3) (partD p) = true := by
  simp only [partD, D.ok, D.oks, oks_ints', oks_strs h (n + 0), Bool.and_self]
theorem oks_parts {n : Nat} : ∀ {l : List Part}, (∀ p ∈ l, ∀ s ∈ p.2, PyData.strOk s = true) → D.oks (n + 3) (l.map partD) = true
  | [], _ => rfl
  | p :: l, h => by rw [List.map_cons, D.oks, ok_part (h p List.mem_cons_self), oks_parts fun p hp => h p (List.mem_cons_of_mem _ hp)]; rfl
def hdP (p : Part) : Int := p.1.headD 0
theorem pys_ints : ∀ l : List Int, D.pys (l.map .int) = l.map .int
  | [] => rfl
  | i :: l => by rw [List.map_cons, D.pys, pys_ints, List.map_cons]; rfl
theorem pys_strs : ∀ l : List Str, D.pys (l.map .str) = l.map .str
  | [] => rfl
  | i :: l => by rw [List.map_cons, D.pys, pys_strs, List.map_cons]; rfl
theorem py_part (p : Part) : D.py (partD p) = .list [.list (p.1.map .int), .list (p.2.map .str)] := by
  simp only [partD, D.py, D.pys, pys_ints, pys_strs]
theorem alikeAll_ints : ∀ l l' : List Int, PySem.W.alikeAll (l.map .int) (l'.map .int) = true
  | [], _ => by simp [PySem.W.alikeAll]
  | _ :: _, [] => by simp [PySem.W.alikeAll]
  | a :: l, b :: l' => by simp [PySem.W.alikeAll, PySem.W.alike, alikeAll_ints l l']
theorem alikeAll_strs : ∀ l l' : List Str, PySem.W.alikeAll (l.map .str) (l'.map .str) = true
  | [], _ => by simp [PySem.W.alikeAll]
  | _ :: _, [] => by simp [PySem.W.alikeAll]
  | a :: l, b :: l' => by simp [PySem.W.alikeAll, PySem.W.alike, alikeAll_strs l l']
theorem sble_parts {l : List Part} (h : ∀ p ∈ l, ∀ s ∈ p.2, PyData.strOk s = true) (hl : l.length ≤ sizeLine) : Sble (l.map partD) where
  ok := oks_parts (n := 56) h
  al := by
    intro d hd d' hd'
    rw [List.map_map] at hd hd'
    obtain ⟨p, _, rfl⟩ := List.mem_map.mp hd
    obtain ⟨q, _, rfl⟩ := List.mem_map.mp hd'
    simp only [Function.comp, py_part, PySem.W.alike, PySem.W.alikeAll, alikeAll_ints, alikeAll_strs, Bool.and_self]
  sb := .inr fun d hd => by
    rw [List.map_map] at hd
    obtain ⟨p, _, rfl⟩ := List.mem_map.mp hd
    simp only [Function.comp, py_part]
    exact And.intro (fun z => nomatch z) (fun xs z => nomatch z)
  ln := by rw [List.length_map]; exact hl
theorem dle_parts {p q : Part} (hp : p.1 ≠ []) (hq : q.1 ≠ []) (h : dle (partD p) (partD q) = true) : hdP p ≤ hdP q := by
  have z : PySem.W.dataLt (D.py (partD q)) (D.py (partD p)) = false := by
    have : (!PySem.W.dataLt (D.py (partD q)) (D.py (partD p))) = true := h
    simpa using this
  obtain ⟨i, l, hi⟩ := List.exists_cons_of_ne_nil hp
  obtain ⟨j, l', hj⟩ := List.exists_cons_of_ne_nil hq
  rw [py_part, py_part, hi, hj, PySem.W.dataLt_list] at z
  by_cases hij : j < i
  · have : PyProof.Rows.lexLt itemOrd (PySem.W.keyToksAll [PyData.list ((j :: l').map .int), .list (q.2.map .str)]) (PySem.W.keyToksAll [PyData.list ((i :: l).map .int), .list (p.2.map .str)]) = true := by
      simp [PySem.W.keyToksAll, PySem.W.keyToks, PyProof.Rows.lexLt, itemLt, hij]
    rw [this] at z; cases z
  · simp only [hdP, hi, hj, List.headD_cons]
    omega
theorem head_mem {p : Part} (h : p.1 ≠ []) : hdP p ∈ p.1 := by
  obtain ⟨i, l, e⟩ := List.exists_cons_of_ne_nil h
  simp [hdP, e]
theorem pts_uniq {m : Nat} {E : List (Key × Key)} {ps : List Part} (h : Pts m E ps) {p p' : Part} (hp : p ∈ ps) (hp' : p' ∈ ps) {i : Int} (hi : i ∈ p.1) (hi' : i ∈ p'.1) : p = p' := by
  have e1 : p.1 = p'.1 := strict_uniq (h.so p hp) (h.so p' hp') fun j => ((h.cn p hp i hi (.inl j)).trans (h.cn p' hp' i hi' (.inl j)).symm)
  have e2 : p.2 = p'.2 := by
    refine List.Perm.eq_of_pairwise (le := ltS) (fun a b _ _ u v => absurd v (List.lt_asymm u)) (h.sn p hp) (h.sn p' hp') ?_
    refine (List.perm_ext_iff_of_nodup ((h.sn p hp).imp fun u e => ?_) ((h.sn p' hp').imp fun u e => ?_)).mpr fun s => ((h.cn p hp i hi (.inr s)).trans (h.cn p' hp' i hi' (.inr s)).symm)
    · rw [e] at u; exact List.lt_irrefl _ u
    · rw [e] at u; exact List.lt_irrefl _ u
  exact Prod.ext e1 e2
theorem pts_perm {m : Nat} {E : List (Key × Key)} {ps ps' : List Part} (h : Pts m E ps) (pm : ps'.Perm ps) : Pts m E ps' where
  ne := fun p hp => h.ne p (pm.mem_iff.mp hp)
  so := fun p hp => h.so p (pm.mem_iff.mp hp)
  sn := fun p hp => h.sn p (pm.mem_iff.mp hp)
  cn := fun p hp => h.cn p (pm.mem_iff.mp hp)
  cv := fun i a b => let ⟨p, hp, q⟩ := h.cv i a b; ⟨p, pm.mem_iff.mpr hp, q⟩
  rg := fun p hp => h.rg p (pm.mem_iff.mp hp)
  nd := pm.nodup_iff.mpr h.nd
  ok := fun p hp => h.ok p (pm.mem_iff.mp hp)
  eg := h.eg
  s1 := by rw [(pm.flatMap_right _).length_eq]; exact h.s1
  s2 := by rw [(pm.flatMap_right _).length_eq]; exact h.s2
theorem pts_len {m : Nat} {E : List (Key × Key)} {ps : List Part} (h : Pts m E ps) : ps.length ≤ m := by
  refine Nat.le_trans ?_ h.s1
  have : ∀ l : List Part, (∀ p ∈ l, p.1 ≠ []) → l.length ≤ (l.flatMap (·.1)).length := by
    intro l
    induction l with
    | nil => intro _; exact Nat.le_refl _
    | cons p l ih =>
      intro hn
      rw [List.flatMap_cons, List.length_append, List.length_cons]
      have := ih fun p hp => hn p (List.mem_cons_of_mem _ hp)
      have := List.length_pos_iff.mpr (hn p List.mem_cons_self)
      omega
  exact this ps h.ne
/-- the parts, sorted -/
theorem pts_sorted {m : Nat} {E : List (Key × Key)} {ps : List Part} (h : Pts m E ps) : ∃ ps', D.srt (ps.map partD) = ps'.map partD ∧ Pts m E ps' ∧ ps'.Pairwise fun p q => hdP p < hdP q := by
  have e : (ps.mergeSort fun p q => dle (partD p) (partD q)).map partD = D.srt (ps.map partD) := PySem.W.sort_maps partD fun _ _ _ _ => rfl
  have P := pts_perm h (List.mergeSort_perm ps fun p q => dle (partD p) (partD q))
  refine ⟨_, e.symm, P, ?_⟩
  have pw := srt_pairwise (ps.map partD)
  rw [← e, List.pairwise_map] at pw
  refine List.Pairwise.imp_of_mem (fun {p q} hp hq z => ?_) (pw.and P.nd)
  have le := dle_parts (P.ne p hp) (P.ne q hq) z.1
  by_cases g : hdP p = hdP q
  · exact absurd (pts_uniq P hp hq (head_mem (P.ne p hp)) (g ▸ head_mem (P.ne q hq))) z.2
  · omega

section
variable {α : Type}
theorem flat_mem_len {f : Part → List α} {p : Part} : ∀ {l : List Part}, p ∈ l → (f p).length ≤ (l.flatMap f).length
  | q :: l, h => by
    rw [List.flatMap_cons, List.length_append]
    rcases List.mem_cons.mp h with rfl | h
    · omega
    · have := flat_mem_len (f := f) h; omega
theorem flat_take_len {f : Part → List α} (l : List Part) (j : Nat) : ((l.take j).flatMap f).length ≤ (l.flatMap f).length := by
  have : l.flatMap f = (l.take j).flatMap f ++ (l.drop j).flatMap f := by rw [← List.flatMap_append, List.take_append_drop]
  rw [this, List.length_append]; omega
theorem flat_filter_len {f : Part → List α} (l : List Part) (q : Part → Bool) : ((l.filter q).flatMap f).length ≤ (l.flatMap f).length := by
  have := filter_len f q l; omega
theorem flat_snoc {f : Part → List α} {l : List Part} {j : Nat} {p : Part} (h : l[j]? = some p) : (l.take (j + 1)).flatMap f = (l.take j).flatMap f ++ f p := by
  rw [take_more h, List.flatMap_append, List.flatMap_cons, List.flatMap_nil, List.append_nil]
end
section
variable {M : Mm} {Q : D → Mm → Prop} {i : Int} {s : Str} {p : Part} {ps : List Part}
theorem lf_inPi (o : ∀ s ∈ p.2, PyData.strOk s = true) (q : Q (.bl (decide (inPart p (.inl i)))) M) : pIn false (.int i) (.lst (p.1.map .int ++ p.2.map .str)) M Q := by
  refine ⟨rfl, ?_, ?_⟩
  · have := ok_part (n := 57) o
    simp only [partD, D.ok, D.oks, Bool.and_true, Bool.and_eq_true] at this
    have go : ∀ {l1 l2 : List D}, D.oks 59 l1 = true → D.oks 59 l2 = true → D.oks 59 (l1 ++ l2) = true := fun {l1 l2} h1 h2 => by
      induction l1 with
      | nil => exact h2
      | cons a l ih => rw [D.oks, Bool.and_eq_true] at h1; rw [List.cons_append, D.oks, h1.1, ih h1.2]; rfl
    exact go oks_ints (oks_strs o 58)
  · have z := mem_part (p := p) (b := .inl i)
    rw [show kD (.inl i) = .int i from rfl] at z
    rw [z]; exact q
theorem lf_inPs (h : PyData.strOk s = true) (o : ∀ s ∈ p.2, PyData.strOk s = true) (q : Q (.bl (decide (inPart p (.inr s)))) M) : pIn false (.str s) (.lst (p.1.map .int ++ p.2.map .str)) M Q := by
  refine ⟨h, ?_, ?_⟩
  · have := ok_part (n := 57) o
    have go : ∀ {l1 l2 : List D}, D.oks 59 l1 = true → D.oks 59 l2 = true → D.oks 59 (l1 ++ l2) = true := fun {l1 l2} h1 h2 => by
      induction l1 with
      | nil => exact h2
      | cons a l ih => rw [D.oks, Bool.and_eq_true] at h1; rw [List.cons_append, D.oks, h1.1, ih h1.2]; rfl
    exact go oks_ints (oks_strs o 58)
  · have z := mem_part (p := p) (b := .inr s)
    rw [show kD (.inr s) = .str s from rfl] at z
    rw [z]; exact q
theorem lf_ninPt (o : ∀ p ∈ ps, ∀ s ∈ p.2, PyData.strOk s = true) (op : ∀ s ∈ p.2, PyData.strOk s = true) (q : Q (.bl (!decide (p ∈ ps))) M) : pIn true (partD p) (.lst (ps.map partD)) M Q := ⟨ok_part (n := 57) op, oks_parts (n := 56) o, by rw [mem_parts]; exact q⟩
end
theorem ties_snoc {says : List Say} {j : Nat} {s : Say} (h : says[j]? = some s) : ties (says.take (j + 1)) = ties (says.take j) ++ s.tie := by
  unfold ties
  rw [take_more h, List.flatMap_append, List.flatMap_cons, List.flatMap_nil, List.append_nil]
theorem ties_len : ∀ {says : List Say}, (ties says).length ≤ says.length
  | [] => Nat.le_refl _
  | s :: says => by
    have := ties_len (says := says)
    unfold ties at this ⊢
    rw [List.flatMap_cons, List.length_append, List.length_cons]
    have : s.tie.length ≤ 1 := by cases s <;> simp [Say.tie]
    omega
theorem ties_take {says : List Say} {j : Nat} : (ties (says.take j)).length ≤ says.length := Nat.le_trans ties_len (by rw [List.length_take]; omega)

/-! ### a comprehension stored in a name that a block captures -/
theorem sw_cell {X : Cx} {elt : Expr} {gs : List Comprehension} {scope : Scope} {pos py : Pos} {y : Str} {ln : Nat} (h : X.env.scope.names.lookup y = some .cell) : swapsWith (.ListComp elt gs scope pos) (some (.Name y py)) ln X.env = pure false := by
  unfold swapsWith
  have e : X.env.kindOf y = some .cell := h
  simp only [e]
  have : (some NameKind.cell == some NameKind.local) = false := by decide
  simp only [this, Bool.and_false, Bool.false_and]
theorem sw_cellD {X : Cx} {ek ev : Expr} {gs : List Comprehension} {scope : Scope} {pos py : Pos} {y : Str} {ln : Nat} (h : X.env.scope.names.lookup y = some .cell) : swapsWith (.DictComp ek ev gs scope pos) (some (.Name y py)) ln X.env = pure false := by
  unfold swapsWith
  have e : X.env.kindOf y = some .cell := h
  simp only [e]
  have : (some NameKind.cell == some NameKind.local) = false := by decide
  simp only [this, Bool.and_false, Bool.false_and]
section
variable {X : Cx} {w : Wi} {Γ Γc : Ga} {M : Mm} {elt iter : Expr} {pos vp : Pos} {k : Nat} {n : Nm} {scope : Scope} {sc : Scope} {N : List Str} {v : Str} {rest : List Stmt} {P : Po}
theorem ds_lcK {ifs : List Expr} {y : Str} {iy : Nat} {py spos : Pos} (S : Sc X k n) (hN : X.N = N) (hsc : X.env.scope = sc) (i : Nat) (cap : List Str) (nb : Nm) (chk : lcB N sc scope [(v, i)] cap nb = true) (hv : v ∈ nb.locs) (hb : ∀ y ∈ nb.bts, y ∈ n.bts) (pk : Pk Γ cap Γc) (nd : ((ownG [(v, i)] ++ Γc).map (·.2.1)).Nodup)
    (hy : y ∈ n.locs) (hc : y ∈ n.cel) {o : Option D} (hm : (y, iy, o) ∈ Γ)
    (hs : ∀ x, foldedSetIterable iter X.env x = pure x) (h : LcN X w v vp i iter elt ifs scope k nb Γ Γc M fun d M1 => ∃ Γ', Put Γ y d Γ' iy ∧ DS X w rest Γ' M1 P) :
    DS X w (.Assign [.Name y py] (.ListComp elt [⟨.Name v vp, iter, ifs, 0⟩] scope pos) spos :: rest) Γ M P :=
  ds_set S hy hm (sw_cell (S.cel y hc)) (de_lcN S hN hsc i cap nb chk hv hb pk nd hs h)
end

/-! ### soundness by the parts -/
structure GoodP (says : List Say) (p : Part) : Prop where
  nm : p.2.length ≤ 1
  si : 1 < p.1.length → ∀ i, Say.nob i ∈ says → i ∉ p.1
  ap : ∀ i j, Say.apa i j ∈ says → i ∈ p.1 → j ∉ p.1
section
variable {m : Nat} {says : List Say} {ps : List Part} {p : Part}
theorem sound_parts (P : Pts m (ties says) ps) (ok : SaysOk m says) (h : ∀ p ∈ ps, GoodP says p) : Sound m says where
  bar := fun i j hs c => by
    obtain ⟨i0, i1, j0, j1, _⟩ := ok.ok _ hs
    obtain ⟨p, hp, hi⟩ := P.cv i i0 i1
    exact (h p hp).ap i j hs hi ((P.cn p hp i hi (.inl j)).mpr c)
  nam := fun i i0 i1 s t hs ht => by
    obtain ⟨p, hp, hi⟩ := P.cv i i0 i1
    exact one_of (h p hp).nm ((P.cn p hp i hi (.inr s)).mpr hs) ((P.cn p hp i hi (.inr t)).mpr ht)
  sin := fun i hs j c => by
    obtain ⟨i0, i1⟩ := ok.ok _ hs
    obtain ⟨p, hp, hi⟩ := P.cv i i0 i1
    have hj : j ∈ p.1 := (P.cn p hp i hi (.inl j)).mpr c
    by_cases z : 1 < p.1.length
    · exact absurd hi ((h p hp).si z i hs)
    · exact one_of (by omega) hj hi
theorem part_nodup (P : Pts m (ties says) ps) (hp : p ∈ ps) : p.2.Nodup := (P.sn p hp).imp fun u e => by rw [e] at u; exact List.lt_irrefl _ u
theorem bad_nm (P : Pts m (ties says) ps) (hp : p ∈ ps) (h : 1 < p.2.length) : ¬ Sound m says := fun S => by
  obtain ⟨s, t, hs, ht, ne⟩ := two_of (part_nodup P hp) h
  obtain ⟨i, hi⟩ := List.exists_mem_of_ne_nil _ (P.ne p hp)
  obtain ⟨i0, i1⟩ := P.rg p hp i hi
  exact ne (S.nam i i0 i1 s t ((P.cn p hp i hi (.inr s)).mp hs) ((P.cn p hp i hi (.inr t)).mp ht))
theorem bad_si (P : Pts m (ties says) ps) (hp : p ∈ ps) (h : 1 < p.1.length) {i : Int} (hs : Say.nob i ∈ says) (hi : i ∈ p.1) : ¬ Sound m says := fun S => by
  obtain ⟨a, b, ha, hb, ne⟩ := two_of ((P.so p hp).imp fun u => by omega) h
  have go := fun j hj => S.sin i hs j ((P.cn p hp i hi (.inl j)).mp hj)
  exact ne ((go a ha).trans (go b hb).symm)
theorem bad_ap (P : Pts m (ties says) ps) (hp : p ∈ ps) {i j : Int} (hs : Say.apa i j ∈ says) (hi : i ∈ p.1) (hj : j ∈ p.1) : ¬ Sound m says := fun S => S.bar i j hs ((P.cn p hp i hi (.inl j)).mp hj)
theorem nobIn_iff {l : List Int} : ((says.filter (nobIn l)).map Say.d).isEmpty = true ↔ ∀ i, Say.nob i ∈ says → i ∉ l := by
  rw [List.isEmpty_iff, List.map_eq_nil_iff, List.filter_eq_nil_iff]
  constructor
  · intro h i hi z
    exact h _ hi (by simp [nobIn, z])
  · intro h s hs
    cases s <;> simp [nobIn]
    exact h _ hs
end
theorem mem_snoc {α : Type} {P : α → Prop} {l : List α} {j : Nat} {x : α} (h : l[j]? = some x) (a : ∀ y ∈ l.take j, P y) (b : P x) : ∀ y ∈ l.take (j + 1), P y := fun y hy => by
  rw [take_more h, List.mem_append, List.mem_singleton] at hy
  rcases hy with hy | rfl
  · exact a y hy
  · exact b
end L3
namespace L3
open PySem PySem.Spec PyProof.Rows L2
/-! ### 54. Defaults -/
/-- a written value -/
structure DV1 (K : PySem.W.Frag) (mg : Str → Option Value) (u : Value) (d : D) : Prop where
  ex : ∃ v, RelV v u ∧ ∀ Hb, Rep K mg Hb v d
inductive DVs (K : PySem.W.Frag) (mg : Str → Option Value) : List Value → List D → Prop
  | nil : DVs K mg [] []
  | cons {u d us ds} : DV1 K mg u d → DVs K mg us ds → DVs K mg (u :: us) (d :: ds)
section
variable {K : PySem.W.Frag} {mg : Str → Option Value}
theorem dv_int {i : Int} {tk : Tok} : DV1 K mg (.int i tk) (.int i) := ⟨.int i, ⟨tk, rfl⟩, fun _ => .int⟩
theorem dv_non : DV1 K mg .none .non := ⟨.non, rfl, fun _ => .non⟩
theorem dv_nil {E : Addr} {dd : Option Addr} {n : Nat} {sl : Array (Option Value)} (l : K.lookup E = some ⟨.type "tuple", dd, .seq #[] n, sl⟩) : DV1 K mg (.ref E) (.tup []) :=
  ⟨.ref E, rfl, fun _ => .tup (.inr ⟨_, #[], n, l, rfl, rfl, Nat.zero_le _, .nil⟩) .nil⟩
theorem DVs.to : ∀ {us : List Value} {ds : List D}, DVs K mg us ds → ∃ vs, Vals vs us ∧ ∀ Hb, Reps K mg Hb vs ds
  | _, _, .nil => ⟨[], .nil, fun _ => .nil⟩
  | _, _, .cons h t => by
    obtain ⟨v, a, b⟩ := h.ex
    obtain ⟨vs, c, d⟩ := t.to
    exact ⟨v :: vs, .cons a c, fun Hb => .cons (b Hb) (d Hb)⟩
theorem funV_mk {x qual : Str} {st : Stmt} {f T : Addr} {oc : Value} {od an td : Option Addr} {osl tsl : Array (Option Value)} {kV doc pm cdv ct : Value} {its : List Value} {n : Nat} {dds : List D} (hd : dds ≠ [])
    (l : K.lookup f = some ⟨oc, od, .func (PySem.W.fnOf x qual (defArgs st) (defBody st) (defScope st) (.ref T) kV doc pm an cdv ct), osl⟩)
    (c : PySem.W.codeIn K cdv qual = true) (k : PySem.W.keepIn K (.ref f) = true) (lT : K.lookup T = some ⟨.type "tuple", td, .seq its.toArray n, tsl⟩) (hv : DVs K mg its dds) : FunV K mg x qual st dds [] f (PySem.W.fnOf x qual (defArgs st) (defBody st) (defScope st) (.ref T) kV doc pm an cdv ct) := by
  obtain ⟨vs, a, b⟩ := hv.to
  have ne : vs ≠ [] := fun e => by
    have z := (b fun _ => none).length
    rw [e] at z
    exact hd (List.length_eq_zero_iff.mp z.symm)
  exact ⟨⟨vs, [], ⟨⟨oc, od, _, kV, doc, pm, an, cdv, ct, osl, rfl, l, c, .inr ⟨ne, T, _, its, n, rfl, lT, rfl, a⟩, .inl rfl⟩, k⟩, b, fun _ => .nil⟩, k⟩
end
structure TopIV (K : PySem.W.Frag) (mg : Str → Option Value) (c qual : Str) (st : Stmt) (dds : List D) : Prop where
  gm : mg c = some (.ref (ca mg c))
  ex : ∃ f fd, Mk K (ca mg c) f ∧ FunV K mg "__init__" qual st dds [] f fd
structure TopMV (K : PySem.W.Frag) (mg : Str → Option Value) (c m qual : Str) (st : Stmt) (dds : List D) : Prop where
  cls : L2.Cls K (ca mg c)
  ex : ∃ f fd, Meth K (ca mg c) m f ∧ FunV K mg m qual st dds [] f fd
section
variable {K : PySem.W.Frag} {h : Heap} {mg : Str → Option Value} {c m qual : Str} {st : Stmt} {C f T : Addr} {oc : Value} {od an td : Option Addr} {osl tsl : Array (Option Value)} {kV doc pm cdv ct : Value} {its : List Value} {nn : Nat} {dds : List D} {fl : List Str}
theorem topIV (X : K.In h) (G : h.Ns mainGlobals mg) (a : PySem.W.nsIn K mainGlobals c = some (some (.ref C))) (mk : PySem.W.makesIn K C = true) (hf : PySem.W.findIn K (.ref C) "__init__" = some (some (.ref f))) (fn : PySem.W.isFn K (.ref f) = true) (kC : PySem.W.keepIn K (.ref C) = true)
    (l : K.lookup f = some ⟨oc, od, .func (PySem.W.fnOf "__init__" qual (defArgs st) (defBody st) (defScope st) (.ref T) kV doc pm an cdv ct), osl⟩) (cd : PySem.W.codeIn K cdv qual = true) (k : PySem.W.keepIn K (.ref f) = true)
    (lT : K.lookup T = some ⟨.type "tuple", td, .seq its.toArray nn, tsl⟩) (hd : dds ≠ []) (hv : DVs K mg its dds) : TopIV K mg c qual st dds := by
  obtain ⟨g, e⟩ := ca_of X G a
  exact ⟨g, _, _, by rw [e]; exact ⟨mk, hf, fn, kC⟩, funV_mk hd l cd k lT hv⟩
theorem topMV (X : K.In h) (G : h.Ns mainGlobals mg) (a : PySem.W.nsIn K mainGlobals c = some (some (.ref C))) (Cc : ClsD K mg c fl) (hf : PySem.W.findIn K (.ref C) m = some (some (.ref f))) (fn : PySem.W.isFn K (.ref f) = true)
    (l : K.lookup f = some ⟨oc, od, .func (PySem.W.fnOf m qual (defArgs st) (defBody st) (defScope st) (.ref T) kV doc pm an cdv ct), osl⟩) (cd : PySem.W.codeIn K cdv qual = true) (k : PySem.W.keepIn K (.ref f) = true)
    (lT : K.lookup T = some ⟨.type "tuple", td, .seq its.toArray nn, tsl⟩) (hd : dds ≠ []) (hv : DVs K mg its dds) : TopMV K mg c m qual st dds := by
  obtain ⟨g, e⟩ := ca_of X G a
  exact ⟨Cc.cls, _, _, by rw [e]; exact ⟨hf, fn, k⟩, funV_mk hd l cd k lT hv⟩
end
section
variable {X : Cx} {w : Wi} {Γ Γ' : Ga} {M : Mm} {Q : D → Mm → Prop} {c f m x : Str} {d : D} {o e : Expr} {es : List Expr} {pos apos p pos' : Pos} {k k0 : Nat} {n : Nm} {ps : List Str} {KW : List KwF} {S : SpD} {P : Po} {rest : List Stmt} {fl : List Str} {kws : List Keyword} {kf : KwF}
/-- C(e, .., k = v, ..) by one of its forms -/
theorem de_makeF (Sx : Sc X k0 n) (C : IniD X.prog X.w X.K X.mg X.base k c ps KW S) (hk : k + 1 ≤ k0) (hx : c ∈ n.glb) (hkf : kf ∈ KW) (hp : ∀ j ∈ kf.perm, j < kf.ks.length + kf.df.length)
    (hall : (backToKw pos (keywordEach kws X.env)).all (·.1.isSome) = true) (hks : (backToKw pos (keywordEach kws X.env)).filterMap (·.1) = kf.ks)
    (he : starEach (e :: es) X.env = (false, eval e X.env) :: starEach es X.env) (hpl : ((backTo pos (starEach (e :: es) X.env)).any (·.1) || (backToKw pos (keywordEach kws X.env)).any (·.1.isNone)) = false)
    (h : DA X w (e :: es) Γ M fun as M0 => as.length + 1 = kf.n ∧ DK X w kws Γ M0 fun ds M1 => ds.length = kf.ks.length ∧ ∀ p, M1 p = none → S (.ptr p :: (as ++ kf.perm.map fun j => (ds ++ kf.df).getD j .non)) (M1.put p (.o c [])) (fun d M' => d = .non ∧ Q (.ptr p) M') fun c fs M' => w.ed Γ c fs M') : DE X w (.Call (.Name c p) (e :: es) kws pos) Γ M Q := .mk fun F σ H Hb A => by
  obtain ⟨g, fd, hm, f, _, b⟩ := C.ex
  have q := h.run F σ H Hb A
  intro pins s I
  refine wpAny_Call_Name_kw (ld_glob I (Sx.gl c hx).1 C.gm ?_ (okN_d (Sx.gl c hx).2))
  refine PySem.W.callWith_KW (h₀ := X.base) I.ok.mod.kin hm.kp hall (thn (q pos pins s I) fun us s1 ⟨vs, H1, I1, rv, Hb1, as, M1, e1, A1, r1, l0, q1⟩ => ?_) hpl he
  refine thn (q1.run F σ H1 Hb1 A1 pos pins s1 I1) fun ws s2 ⟨zs, H2, I2, rz, Hb2, ds, M2, e2, A2, r2, l, q2⟩ => ⟨I2.kIn, ?_⟩
  rw [hks]
  have l1 : us.length + 1 = kf.n := by rw [← rv.length, r1.length]; exact l0
  have l2 : ws.length = kf.ks.length := by rw [← rz.length, r2.length]; exact l
  obtain ⟨dv, dvs, rd, rdd, bb⟩ := b kf hkf
  obtain ⟨v1, v2⟩ := reps_perm (r2.append (rdd Hb2)) (rz.append rd) (perm := kf.perm) fun j hj => by rw [List.length_append, l]; exact hp j hj
  exact run_mk Sx hk hm f A2 (e1.trans e2) I2 _ _ (rv.append v1) ((r1.mono e2).append v2) (fun s a hK hl => bb s (a :: us) ws hK (by simpa using l1) l2) q2
theorem de_makeF0 (Sx : Sc X k0 n) (C : IniD X.prog X.w X.K X.mg X.base k c ps KW S) (hk : k + 1 ≤ k0) (hx : c ∈ n.glb) (hkf : kf ∈ KW) (hn : kf.n = 1) (hp : ∀ j ∈ kf.perm, j < kf.ks.length + kf.df.length)
    (hall : (backToKw pos (keywordEach kws X.env)).all (·.1.isSome) = true) (hks : (backToKw pos (keywordEach kws X.env)).filterMap (·.1) = kf.ks)
    (hpl : ((backTo pos (starEach [] X.env)).any (·.1) || (backToKw pos (keywordEach kws X.env)).any (·.1.isNone)) = false)
    (h : DK X w kws Γ M fun ds M1 => ds.length = kf.ks.length ∧ ∀ p, M1 p = none → S (.ptr p :: (kf.perm.map fun j => (ds ++ kf.df).getD j .non)) (M1.put p (.o c [])) (fun d M' => d = .non ∧ Q (.ptr p) M') fun c fs M' => w.ed Γ c fs M') : DE X w (.Call (.Name c p) [] kws pos) Γ M Q := .mk fun F σ H Hb A => by
  obtain ⟨g, fd, hm, f, _, b⟩ := C.ex
  have q := h.run F σ H Hb A
  intro pins s I
  refine wpAny_Call_Name_kw (ld_glob I (Sx.gl c hx).1 C.gm ?_ (okN_d (Sx.gl c hx).2))
  refine PySem.W.callWith_KW0 (h₀ := X.base) I.ok.mod.kin hm.kp hall (thn (q pos pins s I) fun ws s2 ⟨zs, H2, I2, rz, Hb2, ds, M2, e2, A2, r2, l, q2⟩ => ⟨I2.kIn, ?_⟩) hpl
  rw [hks]
  have l2 : ws.length = kf.ks.length := by rw [← rz.length, r2.length]; exact l
  obtain ⟨dv, dvs, rd, rdd, bb⟩ := b kf hkf
  obtain ⟨v1, v2⟩ := reps_perm (r2.append (rdd Hb2)) (rz.append rd) (perm := kf.perm) fun j hj => by rw [List.length_append, l]; exact hp j hj
  exact run_mk Sx hk hm f A2 e2 I2 _ _ v1 v2 (fun s a hK hl => bb s [a] ws hK (by rw [hn]; rfl) l2) q2
end

/-! ### 55. list.count; is of truth values -/
section
variable {X : Cx} {w : Wi} {Γ Γ' : Ga} {M : Mm} {Q : D → Mm → Prop} {o e : Expr} {apos cpos : Pos}
def pCnt : PPM
  | .lst ds, [.int k], M, Q => ∃ ns : List Int, ds = ns.map .int ∧ Q (.int (ns.count k : Nat)) M
  | _, _, _, _ => False
theorem md_count : MD X "list" "list.count" pCnt := fun w F H0 Hb H σ Γ M v vs x xs Q A e rx rs q => by
  cases rx with
  | @lst a vs' ds h r =>
    cases rs with
    | nil => exact q.elim
    | cons r1 r2 =>
      cases r2 with
      | cons _ _ => exact (by cases r1 <;> exact q.elim)
      | nil =>
        cases r1 with
        | int =>
          obtain ⟨ns, hd, q⟩ := q
          subst hd
          exact semM_of mt_lcount ⟨_, ns, _, rfl, rfl, by rw [← reps_ints r]; exact SqL.of (A.hs.ex _ _ h), A.val e .int q⟩
        | _ => exact q.elim
  | _ => exact q.elim
theorem de_count (hs : starEach [e] X.env = [(false, eval e X.env)]) (hbase : attributeBase o "count" X.env (eval o X.env) = eval o X.env) (hline : (apos.endLine == cpos.line) = true)
    (h : DE X w o Γ M fun x M1 => ∃ ns : List Int, x = .lst (ns.map .int) ∧ DE X w e Γ M1 fun d M2 => ∃ k, d = .int k ∧ Q (.int (ns.count k : Nat)) M2) : DE X w (.Call (.Attribute o "count" apos) [e] [] cpos) Γ M Q :=
  de_bm PySem.F.plainAttrs_list PySem.F.slot_list_count PySem.F.type_list_count md_count hbase (by rw [hs]; rfl) hline hs rfl (de_imp h fun x M1 ⟨ns, hx, q⟩ => by
    subst hx
    exact ⟨rfl, da_cons hs (de_imp q fun d M2 ⟨k, hd, q⟩ => da_nil (by subst hd; exact ⟨ns, rfl, q⟩))⟩)
theorem lf_exNs {ns : List Int} {R : List Int → Prop} (h : R ns) : ∃ ns' : List Int, D.lst (ns.map .int) = .lst (ns'.map .int) ∧ R ns' := ⟨ns, rfl, h⟩
theorem lf_exK {i : Int} {R : Int → Prop} (h : R i) : ∃ k, D.int i = .int k ∧ R k := ⟨i, rfl, h⟩
def pIsB (neg : Bool) : PP2 := fun x y M Q => (if neg then pIsNot x y M Q else pIs x y M Q) ∨ ∃ a b, x = .bl a ∧ y = .bl b ∧ Q (.bl (if neg then !decide (a = b) else decide (a = b))) M
theorem od_is2 : OD X (compareOp .Is) (pIsB false) := fun w F H0 Hb H σ Γ M v u x y Q A e rx ry q => by
  rcases q with q | ⟨a, b, h1, h2, q⟩
  · exact od_is w F H0 Hb H σ Γ M v u x y Q A e rx ry q
  · subst h1 h2
    cases rx; cases ry
    exact semO_of op_is_bl ⟨a, b, rfl, rfl, A.val e .bl q⟩
theorem od_isnot2 : OD X (compareOp .IsNot) (pIsB true) := fun w F H0 Hb H σ Γ M v u x y Q A e rx ry q => by
  rcases q with q | ⟨a, b, h1, h2, q⟩
  · exact od_isnot w F H0 Hb H σ Γ M v u x y Q A e rx ry q
  · subst h1 h2
    cases rx; cases ry
    exact semO_of op_isnot_bl ⟨a, b, rfl, rfl, A.val e .bl q⟩
theorem lf_isBB {a b : Bool} (q : Q (.bl (decide (a = b))) M) : pIsB false (.bl a) (.bl b) M Q := .inr ⟨a, b, rfl, rfl, q⟩
theorem lf_isnotBB {a b : Bool} (q : Q (.bl (!decide (a = b))) M) : pIsB true (.bl a) (.bl b) M Q := .inr ⟨a, b, rfl, rfl, q⟩
theorem lf_isB0 {x y : D} (q : pIs x y M Q) : pIsB false x y M Q := .inl q
theorem lf_isnotB0 {x y : D} (q : pIsNot x y M Q) : pIsB true x y M Q := .inl q
end
end L3
/-! ### 56. enumerate of a tuple -/
namespace L3E
open PySem PySem.Spec PyProof.Rows L2
theorem new_T (l : Addr) (items : Array Value) (n : Nat) (dct : Option Addr) (sl : Array (Option Value)) : Meets (Builtin.«enumerate.__new__» ⟨[.type "enumerate", .ref l], []⟩) (fun _ R s =>
    s.heap.get? l = some { cls := .type "tuple", dict := dct, data := .seq items n, slots := sl } ∧ R (.ok (.ret (.ref (s.heap.objs.size + 1)))) { s with heap := (s.heap.push { cls := .type "tuple_iterator", data := .fields #[.ref l, .int 0 0] }).push { cls := .type "enumerate", data := .fields #[.none, .bool false, .ref s.heap.objs.size, rawInt 0, .none, .none] } }) :=
  .of_wp fun prog w A R s ⟨at1, h⟩ => by
    obtain ⟨hp, g, d, tk, os⟩ := s
    have sub1 := sub_enumerate
    have tup : (⟨hp, g, d, tk, os⟩ : Shared).heap.IsTuple l items := ⟨_, at1, rfl, n, rfl⟩
    have sz : (hp.push { cls := .type "tuple_iterator", data := .fields #[.ref l, .int 0 0] }).objs.size = hp.objs.size + 1 := Heap.size_push ..
    dsimp only at h
    rw [← sz] at h
    wp_walk using AutoSeq1.wpAny_loadPart' at1
    refine wpAny_stack_any fun st => wpAny_pure ?_
    split
    · rename_i cc _ _ _ _ _
      cases (cc == Value.type "enumerate") <;> (wp_walk using AutoSeq1.wpAny_loadPart' at1, wpAny_pyIter_tuple tup) <;> exact ⟨_, rfl, h⟩
    · wp_walk using AutoSeq1.wpAny_loadPart' at1, wpAny_pyIter_tuple tup
      exact ⟨_, rfl, h⟩
section
variable {prog : Program} {w : World} {A : Around} {E : Value → Shared → Prop} {s : Shared}
theorem call_T {l : Addr} {items : Array Value} {Q : Value → Shared → Prop} (hT : s.heap.IsTuple l items)
    (h : ∀ h', IsEnum h' (s.heap.objs.size + 1) s.heap.objs.size 0 .none → h'.IsTupleIter s.heap.objs.size l 0 → (∀ b o, s.heap.get? b = some o → h'.get? b = some o) → Q (.ref (s.heap.objs.size + 1)) { s with heap := h' }) :
    wpAny (model prog w) A (call (.type "enumerate") [.ref l]) Q E s := by
  obtain ⟨⟨c1, c2, c3, c4⟩, t1, t2, nn, t3⟩ := hT
  dsimp only at t2 t3
  subst t2 t3
  refine callType_new F.called_enumerate (by decide) (F.typeCall_enumerate_1 _) (F.newCall_enumerate_1 _) (fun obj => F.args_object_init_2 obj _) F.entry_enumerate_new (new_T l items nn c2 c4) ⟨t1, ?_⟩
  have sz : (s.heap.push { cls := .type "tuple_iterator", data := .fields #[.ref l, .int 0 0] }).objs.size = s.heap.objs.size + 1 := Heap.size_push ..
  have en := Heap.get?_push_size (s.heap.push { cls := .type "tuple_iterator", data := .fields #[.ref l, .int 0 0] }) (o := { cls := .type "enumerate", data := .fields #[.none, .bool false, .ref s.heap.objs.size, rawInt 0, .none, .none] }) rfl
  rw [sz] at en
  exact ⟨⟨_, en, rfl⟩, h _ en ⟨_, Heap.get?_push_of_some _ (Heap.get?_push_size _ rfl), rfl, rfl⟩ fun b o x => Heap.get?_push_of_some _ (Heap.get?_push_of_some _ x)⟩
end
/-- the tuple at a, each item in a new pair -/
def ItE (K : PySem.W.Frag) (a : Addr) : It :=
  ⟨fun i H => ∃ (xs : List V) (x : V), SqT K H a xs ∧ xs[i]? = some x, fun i H v H' => ∃ T x, v = .ref T ∧ H T = none ∧ H' = upd H T (.tup [.int (i : Nat), x]) ∧ ∀ xs, SqT K H a xs → xs[i]? = some x, fun i H => ∃ xs : List V, SqT K H a xs ∧ xs.length ≤ i⟩
theorem turn_E {P : Program} {w : World} {K : PySem.W.Frag} {elts : List Expr} {kk : Nat} {tpos : Pos} (a e it : Addr) :
    Turn P w K (.Tuple elts kk tpos) (ItE K a) [e, it] e (fun i h => (∃ old, IsEnum h e it ((i : Nat) : Int) old) ∧ h.IsTupleIter it a i ∧ e ≠ it) where
  mem := List.mem_cons_self
  obj := fun i h ⟨⟨old, en⟩, ⟨o, o1, o2, o3⟩, _⟩ b hb => by
    rcases List.mem_cons.mp hb with z | z
    · subst z; exact ⟨_, en, fun v q => nomatch q⟩
    · rw [List.mem_singleton.mp z]; exact ⟨o, o1, fun v q => by rw [o3] at q; cases q⟩
  keep := fun i h h' ⟨⟨old, en⟩, ti, ne⟩ k => ⟨⟨old, k e List.mem_cons_self _ en⟩, ti.at fun o q => k it (by simp) o q, ne⟩
  item := by
    rintro X rfl rfl rfl hc i pins s σ H E I hf ⟨⟨old, en⟩, ti, ne⟩ ⟨xs, x, hq, hx⟩
    obtain ⟨its, rv, tp, hz⟩ := I.tuple hq
    obtain ⟨u, hu, ru⟩ := rv.get hx
    have le : e < s.heap.objs.size := Heap.lt_size en
    have li : it < s.heap.objs.size := Heap.lt_size ti.choose_spec.1
    have na : a ≠ it := fun z => by
      obtain ⟨o, o1, o2, o3⟩ := ti
      obtain ⟨o', p1, p2, _, _⟩ := tp
      rw [z, o1] at p1; cases p1; rw [o2] at p2; exact absurd (Value.type.inj p2) (by decide)
    have nb : a ≠ e := fun z => by
      obtain ⟨o', p1, p2, _, _⟩ := tp
      rw [z, show s.heap.get? e = _ from en] at p1; cases p1; exact absurd (Value.type.inj p2) (by decide)
    refine wpAny_pyNext_enum_itemD (Draws.tuple (A := X.A.in1) (I.ok.hd hc) it a na its.toArray) (i := i) en ⟨ti, tp⟩ (by rw [List.size_toArray]; exact (List.getElem?_eq_some_iff.mp hu).1) ne (by simp only [List.mem_cons, List.not_mem_nil, or_false, not_or]; exact ⟨ne, fun z => nb z.symm⟩) fun y h1 tk hy eo st1 hT hs1 hk => ?_
    obtain rfl : y = u := by
      have z : its[i]? = some y := by simpa using hy
      rw [hu] at z; exact (Option.some.inj z).symm
    refine ⟨_, rfl, wpAny_letOwnedTupleGo_enum (s := { s with heap := h1, toks := tk + 1 }) eo fun h2 en2 sb => ?_⟩
    have T2 : h2.get? s.heap.objs.size = some { cls := .type "tuple", data := .seq #[.int i tk, y] } := (sb.2 _ (Nat.ne_of_gt le)).trans hT
    have ob : ObjOk X.prog X.w (upd H s.heap.objs.size (.tup [.int (i : Nat), x])) h2 s.heap.objs.size (.tup [.int (i : Nat), x]) := ⟨by show 2 ≤ sizeLine; decide, _, .cons ⟨tk, rfl⟩ (.cons ru .nil), ⟨_, T2, rfl, _, rfl⟩⟩
    have J : Inv X pins σ (upd H s.heap.objs.size (.tup [.int (i : Nat), x])) { s with heap := h2, toks := tk + 1 } :=
      I.turnedNew (ch := [e, it]) (fun b o hb q => (sb.2 b fun z => hb (by simp [z])).trans (hk b o (fun z => hb (by simp [z])) (fun z => hb (by simp [z])) q)) hf (Nat.le_refl _) ob
    refine ⟨.ref s.heap.objs.size, _, J, rfl, ⟨_, x, rfl, I.hok.fresh (Nat.le_refl _), rfl, fun ys hy => by rw [I.tuple_inj hy hq]; exact hx⟩, ⟨⟨y, by rw [show ((i + 1 : Nat) : Int) = (i : Int) + 1 by omega]; exact en2⟩, st1.1.at fun o q => (sb.2 it ne.symm).trans q, ne⟩, fun b hb => ?_⟩
    have lb : b < s.heap.objs.size := by
      rcases List.mem_cons.mp hb with z | z
      · rw [z]; exact le
      · rw [List.mem_singleton.mp z]; exact li
    rw [upd_ne (Nat.ne_of_lt lb)]
    exact (hf b hb).1
  done := by
    rintro X rfl rfl rfl hc i pins s σ H E I hf ⟨⟨old, en⟩, ti, ne⟩ ⟨xs, hq, hx⟩
    obtain ⟨its, rv, tp, hz⟩ := I.tuple hq
    obtain ⟨f0, f1, f2, f3, f4, f5⟩ := hf it (by simp)
    have ll := rv.length
    have hT : s.TypeIs (.ref e) "enumerate" := ⟨_, en, rfl⟩
    have li : it < s.heap.objs.size := Heap.lt_size ti.choose_spec.1
    unfold pyNext
    refine wpAny_bind (wpAny_attempt (wpAny_callSpecial?_slot (name := Str.ofString "__next__") hT F.slot_enumerate_next (wpAny_call_entry F.slot_enumerate_next hT F.entry_enumerate_next ?_ (F.args_enumerate_next_1 _))))
    show wpAny _ _ (field (.ref e) 2 >>= _) _ _ _
    refine wpAny_bind (wpAny_field en rfl (x := .ref it) rfl ?_)
    refine wpAny_bind (wpAny_nextOf_tuple_end (I.ok.hd hc) ti tp (by simp; omega) fun h' x kb hx' => ?_)
    obtain ⟨o, ho, hc'⟩ := hx'
    refine wpAny_bind (wpAny_isInstance (T := "StopIteration") (b := true) ⟨o, ho, hc'⟩ isSubtype_stop ?_)
    exact wpAny_pure ⟨rfl, I.turned (t' := s.toks) (fun b o hb q => kb b o hb q) f0 f1 f3 f4 f5⟩
  self := fun A i s Q E ⟨⟨_, en⟩, _⟩ h => wpAny_pyIter_enum en h
def iE (K : PySem.W.Frag) (ta : TA) : TI := fun σ H R => ta σ H fun vs H1 => ∃ a xs, vs = [.ref a] ∧ ((SqL K H1 a xs ∧ R (Ite K a) H1) ∨ (SqT K H1 a xs ∧ R (ItE K a) H1))
theorem pi_E {X : Cx} {e : Expr} {ta : TA} {p pos tpos : Pos} {elts : List Expr} {kk : Nat} (hg : Gl X "enumerate") (hm : X.mg "enumerate" = none) (ha : PA X [e] ta) (hs : starEach [e] X.env = [(false, eval e X.env)]) : PI X (.Tuple elts kk tpos) (.Call (.Name "enumerate" p) [e] [] pos) (iE X.K ta) := .mk fun pins s σ H R I h => by
  refine Call_ (ld_blt I hg hm boot_enumerate (PyProof.Rows.callWith_type1 (thn (ha.run pos pins s σ H _ I h) fun us s1 ⟨vs, H1, I1, r1, a, xs, ex, q⟩ => ?_) hs rfl))
  subst ex
  obtain ⟨u, rfl, ru⟩ := vals1 r1
  obtain rfl : u = Value.ref a := ru
  have fin : ∀ (J : It) (tn : Nat → Heap → Prop) (h' : Heap), (∀ b o, s1.heap.get? b = some o → h'.get? b = some o) → Turn X.prog X.w X.K (.Tuple elts kk tpos) J [s1.heap.objs.size + 1, s1.heap.objs.size] (s1.heap.objs.size + 1) tn → tn 0 h' → R J H1 →
      PIE X pins σ (.Tuple elts kk tpos) R (.ref (s1.heap.objs.size + 1)) { s1 with heap := h' } := fun J tn h' hk T t0 r => by
    refine ⟨_, _, tn, J, H1, rfl, I1.kept (t' := s1.toks) hk, T, t0, fun b hb => ?_, r⟩
    have lb : s1.heap.objs.size ≤ b := by
      rcases List.mem_cons.mp hb with z | z
      · rw [z]; exact Nat.le_succ _
      · rw [List.mem_singleton.mp z]; exact Nat.le_refl _
    exact I1.fpOk lb (I1.hok.fresh lb)
  rcases q with ⟨hq, q⟩ | ⟨hq, q⟩
  · obtain ⟨its, rv, pl, hz⟩ := I1.list hq
    exact call_enumerate_list pl.isList fun h' he hit hsz hk => wpAny_pyIter_enum he (fin _ _ h' hk (turn_enum a _ _) ⟨⟨.none, he⟩, hit, Nat.succ_ne_self _⟩ q)
  · obtain ⟨its, rv, tp, hz⟩ := I1.tuple hq
    exact call_T tp fun h' he hit hk => wpAny_pyIter_enum he (fin _ _ h' hk (turn_E a _ _) ⟨⟨.none, he⟩, hit, Nat.succ_ne_self _⟩ q)
end L3E
namespace L3
open PySem PySem.Spec PyProof.Rows L2 L3E
section
variable {X : Cx} {w : Wi} {Γ Γ' : Ga} {M : Mm} {Q : List D → Mm → Prop} {a : Expr} {pos : Pos} {k : Nat} {n : Nm}
theorem itd_E {p : Addr} {us : List V} {xs : List D} {Hb : Hp} (h : SqT X.K Hb p us) (r : Reps X.K X.mg Hb us xs) : ItD X (ItE X.K p) (enumD 0 xs) Hb := fun i F Hb' H M e hs => by
  have hq : SqT X.K H p us := ex_t (e.trans hs.ex) h
  rw [enumD_length]
  refine ⟨fun hi => ?_, fun hi => ⟨us, hq, by rw [r.length]; omega⟩⟩
  obtain ⟨v, h1, h2⟩ := r.get (List.getElem?_eq_getElem hi)
  refine ⟨⟨us, v, hq, h1⟩, ?_⟩
  rintro u H' ⟨T, x, rfl, e2, rfl, e4⟩
  obtain rfl := Option.some.inj ((e4 us hq).symm.trans h1)
  have ex := Ex.new (o := .tup [.int (i : Nat), x]) (hs.ex.free e2)
  exact ⟨_, _, ex, hs.new e2 _, enumD_get (List.getElem?_eq_getElem hi), by rw [Nat.zero_add]; exact .tup (SqT.of upd_same) (.cons .int (.cons ((h2.mono e).mono ex) .nil))⟩
theorem di_enum2 {p tpos : Pos} {elts : List Expr} {kk : Nat} (S : Sc X k n) (hx : ("enumerate" : Str) ∈ n.glb) (hm : X.mg "enumerate" = none) (hs : starEach [a] X.env = [(false, eval a X.env)])
    (h : DE X w a Γ M fun d M1 => ∃ xs, d.seq = some xs ∧ Q (enumD 0 xs) M1) : DI X w (.Tuple elts kk tpos) (.Call (.Name "enumerate" p) [a] [] pos) Γ M Q := .mk fun F σ H Hb A => by
  have ha : DA X w [a] Γ M fun ds M1 => ∃ d xs, ds = [d] ∧ d.seq = some xs ∧ Q (enumD 0 xs) M1 := da_cons hs (de_imp h fun d M1 ⟨xs, e, q⟩ => da_nil ⟨d, xs, rfl, e, q⟩)
  refine semIt_of (pi_E (S.gl _ hx).1 hm semA_ok hs) (semA_mono (ha.run F σ H Hb A) fun v H1 ⟨Hb1, ds, M1, e1, A1, r1, d, xs, hd, hq, q⟩ => ?_)
  subst hd
  cases r1 with
  | cons r1 r2 =>
    cases r2
    cases r1 with
    | lst h1 t1 => cases hq; exact ⟨_, _, rfl, .inl ⟨SqL.of (A1.hs.ex _ _ h1), Hb1, M1, _, e1, A1, itd_enum h1 t1, q⟩⟩
    | tup h1 t1 => cases hq; exact ⟨_, _, rfl, .inr ⟨ex_t A1.hs.ex h1, Hb1, M1, _, e1, A1, itd_E h1 t1, q⟩⟩
    | _ => cases hq
end
section
variable {M : Mm} {Q : D → Mm → Prop} {x : D} {ds : List D}
theorem seq_isLT (h : x.seq = some ds) : x = .lst ds ∨ x = .tup ds := by
  cases x <;> cases h
  · exact .inr rfl
  · exact .inl rfl
theorem lf_lenQ (h : x.seq = some ds) (q : Q (.int ds.length) M) : pLen x M Q := by
  rcases seq_isLT h with rfl | rfl <;> exact q
theorem lf_seqMQ {R : List D → Prop} (h : x.seq = some ds) (q : R ds) : ∃ xs, x.seqM M = some xs ∧ R xs := by
  rcases seq_isLT h with rfl | rfl <;> exact ⟨ds, rfl, q⟩
theorem lf_seqQ {R : List D → Prop} (h : x.seq = some ds) (q : R ds) : ∃ xs, x.seq = some xs ∧ R xs := ⟨ds, h, q⟩
end
end L3
namespace L3
open PySem PySem.Spec PyProof.Rows L2
/-! ### 57. A place told by a number -/
section
variable {α : Type} {M : Mm} {Q : D → Mm → Prop} {i : Int}
theorem atI_of {l : List α} (h0 : 0 ≤ i) {x : α} (h : l[i.toNat]? = some x) : atI l i = some x := by
  have z := atI_nat h
  rwa [Int.toNat_of_nonneg h0] at z
theorem lf_ixLI {l : List Int} (h0 : 0 ≤ i) (h1 : i < l.length) (q : Q (.int (l.getD i.toNat 0)) M) : pIx (.lst (l.map .int)) (.int i) M Q := by
  have hl : i.toNat < l.length := by omega
  refine ⟨_, atI_of h0 (x := .int (l.getD i.toNat 0)) ?_, q⟩
  rw [List.getElem?_map, List.getElem?_eq_getElem hl, List.getD_eq_getElem?_getD, List.getElem?_eq_getElem hl]
  rfl
theorem lf_ixM {f : α → D} {l : List α} (h0 : 0 ≤ i) (h1 : i < l.length) (q : ∀ x, l[i.toNat]? = some x → Q (f x) M) : pIx (.lst (l.map f)) (.int i) M Q := by
  have hl : i.toNat < l.length := by omega
  refine ⟨_, atI_of h0 (x := f (l[i.toNat]'hl)) ?_, q _ (List.getElem?_eq_getElem hl)⟩
  rw [List.getElem?_map, List.getElem?_eq_getElem hl]
  rfl
end
/-! ### 58. True albums -/
def perO (pe : List Int) (i : Int) : Int := pe.getD i.toNat 0
def TrueS (pe : List Int) (nms : List (List Nat)) : Say → Prop
  | .nob i => 0 ≤ i ∧ i < pe.length ∧ pe.count (perO pe i) = 1
  | .isn i s => 0 ≤ i ∧ i < pe.length ∧ nms[(perO pe i).toNat]? = some s
  | .sam i j => 0 ≤ i ∧ i < pe.length ∧ 0 ≤ j ∧ j < pe.length ∧ i ≠ j ∧ perO pe i = perO pe j
  | .apa i j => 0 ≤ i ∧ i < pe.length ∧ 0 ≤ j ∧ j < pe.length ∧ i ≠ j ∧ perO pe i ≠ perO pe j
theorem perO_mem {pe : List Int} {i : Int} (h0 : 0 ≤ i) (h1 : i < pe.length) : perO pe i ∈ pe := by
  have hl : i.toNat < pe.length := by omega
  unfold perO
  rw [List.getD_eq_getElem?_getD, List.getElem?_eq_getElem hl]
  exact List.getElem_mem hl
theorem TrueS.ok {pe : List Int} {nms : List (List Nat)} (hn : ∀ s ∈ nms, NameL s) {s : Say} (h : TrueS pe nms s) : s.ok pe.length := by
  cases s with
  | nob i => exact ⟨h.1, h.2.1⟩
  | isn i s => exact ⟨h.1, h.2.1, hn s (List.mem_of_getElem? h.2.2)⟩
  | sam i j => exact ⟨h.1, h.2.1, h.2.2.1, h.2.2.2.1, h.2.2.2.2.1⟩
  | apa i j => exact ⟨h.1, h.2.1, h.2.2.1, h.2.2.2.1, h.2.2.2.2.1⟩
/-- the thing k is of the person c -/
def ofP (pe : List Int) (nms : List (List Nat)) (c : Int) : Key → Prop
  | .inl i => 0 ≤ i ∧ i < pe.length ∧ perO pe i = c
  | .inr s => ∃ l, nms[c.toNat]? = some l ∧ tx l = s
theorem ofP_edge {pe : List Int} {nms : List (List Nat)} (nd : nms.Nodup) (rg : ∀ x ∈ pe, 0 ≤ x) {c : Int} (c0 : 0 ≤ c) {says : List Say} (h : ∀ s ∈ says, TrueS pe nms s) {a b : Key} (e : (a, b) ∈ ties says) : ofP pe nms c a ↔ ofP pe nms c b := by
  obtain ⟨s, hs, he⟩ := List.mem_flatMap.mp e
  have ht := h s hs
  cases s with
  | nob i => simp [Say.tie] at he
  | apa i j => simp [Say.tie] at he
  | sam i j =>
    simp only [Say.tie, List.mem_singleton, Prod.mk.injEq] at he
    obtain ⟨rfl, rfl⟩ := he
    obtain ⟨i0, i1, j0, j1, _, hp⟩ := ht
    simp only [ofP, i0, i1, j0, j1, true_and, hp]
  | isn i l =>
    simp only [Say.tie, List.mem_singleton, Prod.mk.injEq] at he
    obtain ⟨rfl, rfl⟩ := he
    obtain ⟨i0, i1, hp⟩ := ht
    have r := rg _ (perO_mem i0 i1)
    simp only [ofP, i0, i1, true_and]
    constructor
    · rintro rfl; exact ⟨l, hp, rfl⟩
    · rintro ⟨l', h1, h2⟩
      obtain rfl := tx_inj h2
      have := (List.getElem?_inj (List.getElem?_eq_some_iff.mp hp).1 nd).mp (hp.trans h1.symm)
      omega
theorem ofP_conn {pe : List Int} {nms : List (List Nat)} (nd : nms.Nodup) (rg : ∀ x ∈ pe, 0 ≤ x) {c : Int} (c0 : 0 ≤ c) {says : List Say} (h : ∀ s ∈ says, TrueS pe nms s) {a b : Key} (k : Conn (ties says) a b) : ofP pe nms c a ↔ ofP pe nms c b := by
  induction k with
  | rfl => exact Iff.rfl
  | edge e => exact ofP_edge nd rg c0 h e
  | symm _ ih => exact ih.symm
  | trans _ _ ih1 ih2 => exact ih1.trans ih2
theorem count_one {pe : List Int} {i j : Int} (i0 : 0 ≤ i) (i1 : i < pe.length) (j0 : 0 ≤ j) (j1 : j < pe.length) (h : pe.count (perO pe i) = 1) (e : perO pe j = perO pe i) : j = i := by
  have go : ∀ (l : List Int) (a b : Nat) (x : Int), l[a]? = some x → l[b]? = some x → l.count x = 1 → a = b := by
    intro l
    induction l with
    | nil => intro a b x h; simp at h
    | cons y l ih =>
      intro a b x ha hb hc
      have no : y = x → ∀ n, l[n]? = some x → False := fun e n hn => by
        have m := List.count_pos_iff.mpr (List.mem_of_getElem? hn)
        rw [e, List.count_cons_self] at hc
        omega
      cases a with
      | zero =>
        cases b with
        | zero => rfl
        | succ b =>
          simp only [List.getElem?_cons_zero, Option.some.injEq, List.getElem?_cons_succ] at ha hb
          exact (no ha b hb).elim
      | succ a =>
        cases b with
        | zero =>
          simp only [List.getElem?_cons_zero, Option.some.injEq, List.getElem?_cons_succ] at ha hb
          exact (no hb a ha).elim
        | succ b =>
          simp only [List.getElem?_cons_succ] at ha hb
          by_cases z : y = x
          · exact (no z a ha).elim
          · rw [List.count_cons_of_ne z] at hc
            rw [ih a b x ha hb hc]
  have gi : pe[i.toNat]? = some (perO pe i) := by
    have hl : i.toNat < pe.length := by omega
    unfold perO
    rw [List.getD_eq_getElem?_getD, List.getElem?_eq_getElem hl]; rfl
  have gj : pe[j.toNat]? = some (perO pe i) := by
    have hl : j.toNat < pe.length := by omega
    rw [← e]
    unfold perO
    rw [List.getD_eq_getElem?_getD, List.getElem?_eq_getElem hl]; rfl
  have := go pe j.toNat i.toNat _ gj gi h
  omega
/-- true sayings make a sound album -/
theorem true_sound {pe : List Int} {nms : List (List Nat)} (nd : nms.Nodup) (rg : ∀ x ∈ pe, 0 ≤ x) {says : List Say} (h : ∀ s ∈ says, TrueS pe nms s) : Sound pe.length says where
  bar := fun i j hs c => by
    obtain ⟨i0, i1, j0, j1, _, hp⟩ := h _ hs
    have := (ofP_conn nd rg (rg _ (perO_mem i0 i1)) h c).mp ⟨i0, i1, rfl⟩
    exact hp this.2.2.symm
  nam := fun i i0 i1 s t hs ht => by
    obtain ⟨l, a1, a2⟩ := (ofP_conn nd rg (rg _ (perO_mem i0 i1)) h hs).mp ⟨i0, i1, rfl⟩
    obtain ⟨l', b1, b2⟩ := (ofP_conn nd rg (rg _ (perO_mem i0 i1)) h ht).mp ⟨i0, i1, rfl⟩
    rw [a1] at b1
    rw [← a2, ← b2, Option.some.inj b1]
  sin := fun i hs j c => by
    obtain ⟨i0, i1, hc⟩ := h _ hs
    obtain ⟨j0, j1, hp⟩ := (ofP_conn nd rg (rg _ (perO_mem i0 i1)) h c).mp ⟨i0, i1, rfl⟩
    exact count_one i0 i1 j0 j1 hc hp
/-- the other word about two pictures -/
def flipS : Say → Say
  | .sam i j => .apa j i
  | .apa i j => .sam j i
  | s => s
def isLate : Say → Bool
  | .sam _ _ => true
  | .apa _ _ => true
  | _ => false
theorem late_bad {m : Nat} {says : List Say} {s : Say} (hs : s ∈ says) (hl : isLate s = true) : ¬ Sound m (says ++ [flipS s]) := by
  have mono : ∀ {a b}, Conn (ties says) a b → Conn (ties (says ++ [flipS s])) a b := fun c => c.mono fun e he => by
    unfold ties at he ⊢
    rw [List.flatMap_append]; exact List.mem_append_left _ he
  intro S
  cases s with
  | nob i => cases hl
  | isn i l => cases hl
  | sam i j => exact S.bar j i (by simp [flipS]) (mono (.symm (.edge (List.mem_flatMap.mpr ⟨_, hs, by simp [Say.tie]⟩))))
  | apa i j => exact S.bar i j (List.mem_append_left _ hs) (.symm (.edge (List.mem_flatMap.mpr ⟨.sam j i, by simp [flipS], by simp [Say.tie]⟩)))
section
variable {pe : List Int} {nms : List (List Nat)} {i j : Int}
theorem tr_nob (h0 : 0 ≤ i) (h1 : i < ((pe.map D.int).length : Int)) (hc : ((pe.count (pe.getD i.toNat 0) : Nat) : Int) = 1) : TrueS pe nms (.nob i) := ⟨h0, by rwa [List.length_map] at h1, by unfold perO; omega⟩
theorem tr_sam (h0 : 0 ≤ i) (h1 : i < ((pe.map D.int).length : Int)) (g0 : 0 ≤ j) (g1 : j < ((pe.map D.int).length : Int)) (ne : ¬ i = j) (e : pe.getD i.toNat 0 = pe.getD j.toNat 0) : TrueS pe nms (.sam i j) := ⟨h0, by rwa [List.length_map] at h1, g0, by rwa [List.length_map] at g1, ne, e⟩
theorem tr_apa (h0 : 0 ≤ i) (h1 : i < ((pe.map D.int).length : Int)) (g0 : 0 ≤ j) (g1 : j < ((pe.map D.int).length : Int)) (ne : ¬ i = j) (e : ¬ pe.getD i.toNat 0 = pe.getD j.toNat 0) : TrueS pe nms (.apa i j) := ⟨h0, by rwa [List.length_map] at h1, g0, by rwa [List.length_map] at g1, ne, e⟩
theorem tr_isn {l : List Nat} (h0 : 0 ≤ i) (h1 : i < ((pe.map D.int).length : Int)) (e : nms[(pe.getD i.toNat 0).toNat]? = some l) : TrueS pe nms (.isn i l) := ⟨h0, by rwa [List.length_map] at h1, e⟩
theorem per_rg (hr : ∀ x ∈ pe, 0 ≤ x ∧ x < 4) (h0 : 0 ≤ i) (h1 : i < ((pe.map D.int).length : Int)) : 0 ≤ pe.getD i.toNat 0 ∧ pe.getD i.toNat 0 < 4 := hr _ (perO_mem h0 (by rwa [List.length_map] at h1))
end
end L3
namespace L3
open PySem PySem.Spec PyProof.Rows L2
/-! ### 59. a, b = .. where a name is captured -/
section
variable {X : Cx} {w : Wi} {Γ : Ga} {M : Mm} {P : Po} {x y z : Str} {px py pz pt pt2 pos : Pos} {kt k2 : Nat} {a b c : Expr} {rest : List Stmt} {k : Nat} {n : Nm}
theorem swp_x {env : Env} (h : env.kindOf x = some .cell ∨ env.kindOf y = some .cell) : swappedStores [.Tuple [.Name x px, .Name y py] kt pt] (.Tuple [a, b] k2 pt2) env = pure none := by
  have nl : (some NameKind.cell == some NameKind.local) = false := by decide
  unfold swappedStores
  dsimp only
  split
  · rfl
  · split
    · rfl
    · rw [if_pos]
      rcases h with h | h
      · simp only [List.filterMap_cons, h, nl, Bool.false_and, Bool.false_eq_true, if_false, List.filterMap_nil]
        split <;> simp
      · simp only [List.filterMap_cons, h, nl, Bool.false_and, Bool.false_eq_true, if_false, List.filterMap_nil]
        split <;> simp
theorem ds_parK1 (S : Sc X k n) (hx : x ∈ n.cel) (h1 : (assignEach [.Tuple [.Name x px, .Name y py] kt pt] X.env).map (·.2) = [assign (.Tuple [.Name x px, .Name y py] kt pt) X.env]) (hs : swapsWithSole [.Tuple [.Name x px, .Name y py] kt pt] (.Tuple [a, b] k2 pt2) pos.line X.env = pure false)
    (h : DE X w (.Tuple [a, b] k2 pt2) Γ M fun d M1 => DG X w (.Tuple [.Name x px, .Name y py] kt pt) d Γ M1 fun Γ2 M2 => DS X w rest Γ2 M2 P) : DS X w (.Assign [.Tuple [.Name x px, .Name y py] kt pt] (.Tuple [a, b] k2 pt2) pos :: rest) Γ M P :=
  ds_asg hs (swp_x (.inl (S.cel x hx))) h1 h
theorem ds_parK2 (S : Sc X k n) (hy : y ∈ n.cel) (h1 : (assignEach [.Tuple [.Name x px, .Name y py] kt pt] X.env).map (·.2) = [assign (.Tuple [.Name x px, .Name y py] kt pt) X.env]) (hs : swapsWithSole [.Tuple [.Name x px, .Name y py] kt pt] (.Tuple [a, b] k2 pt2) pos.line X.env = pure false)
    (h : DE X w (.Tuple [a, b] k2 pt2) Γ M fun d M1 => DG X w (.Tuple [.Name x px, .Name y py] kt pt) d Γ M1 fun Γ2 M2 => DS X w rest Γ2 M2 P) : DS X w (.Assign [.Tuple [.Name x px, .Name y py] kt pt] (.Tuple [a, b] k2 pt2) pos :: rest) Γ M P :=
  ds_asg hs (swp_x (.inr (S.cel y hy))) h1 h
end
/-- what _law_person gives: nothing, or a true saying -/
def optD : Option Say → D
  | none => .non
  | some s => s.d
theorem optD_of {d : D} {pe : List Int} {nms : List (List Nat)} (h : d = .non ∨ ∃ s, d = Say.d s ∧ TrueS pe nms s) : ∃ o : Option Say, d = optD o ∧ ∀ s, o = some s → TrueS pe nms s := by
  rcases h with rfl | ⟨s, rfl, h⟩
  · exact ⟨none, rfl, fun s e => by cases e⟩
  · exact ⟨some s, rfl, fun s' e => by cases e; exact h⟩
theorem filter_opt : ∀ {os : List (Option Say)}, (os.filter (·.isSome)).map optD = (os.filterMap id).map Say.d
  | [] => rfl
  | none :: os => by simpa using filter_opt (os := os)
  | some s :: os => by
    have ih := filter_opt (os := os)
    simp only [List.filter_cons, Option.isSome_some, if_true, List.map_cons, List.filterMap_cons, id, ih]
    rfl
theorem filterMap_len (os : List (Option Say)) : (os.filterMap id).length ≤ os.length := by
  induction os with
  | nil => exact Nat.le_refl _
  | cons o os ih => cases o <;> simp at ih ⊢ <;> omega
theorem mem_opts {os : List (Option Say)} {s : Say} : s ∈ os.filterMap id ↔ some s ∈ os := by simp
theorem filter_late : ∀ {says : List Say}, (says.filter isLate).map Say.d = (says.filter isLate).map Say.d := rfl
section
variable {b1 b2 b : Bool} {a : Alb} {m : Nat} {says : List Say}
theorem bb_ne (h : (b1 == b2) = false) (i1 : b1 = true ↔ Sound a.many a.says) (i2 : b2 = true ↔ Sound m says) (e1 : a.many = m) (e2 : a.says = says) : False := by
  rw [e1, e2] at i1
  have := i1.trans i2.symm
  cases b1 <;> cases b2 <;> simp at h this
theorem bb_T (h : ¬ b = true) (i1 : b = true ↔ Sound a.many a.says) (e1 : a.many = m) (e2 : a.says = says) (s : Sound m says) : False := by
  rw [e1, e2] at i1
  exact h (i1.mpr s)
theorem bb_F (h : ¬ b = false) (i1 : b = true ↔ Sound a.many a.says) (e1 : a.many = m) (e2 : a.says = says) (s : ¬ Sound m says) : False := by
  rw [e1, e2] at i1
  exact s (i1.mp (by simpa using h))
theorem flip_ok {s : Say} {z : Int} (h : s.ok z) : (flipS s).ok z := by
  cases s with
  | nob i => exact h
  | isn i l => exact h
  | sam i j => exact ⟨h.2.2.1, h.2.2.2.1, h.1, h.2.1, Ne.symm h.2.2.2.2⟩
  | apa i j => exact ⟨h.2.2.1, h.2.2.2.1, h.1, h.2.1, Ne.symm h.2.2.2.2⟩
theorem more_ok {s : Say} (ok : SaysOk m says) (h : s.ok m) (l : says.length < 40) : SaysOk m (says ++ [s]) := ⟨ok.mm, by simp; omega, fun t ht => by
  rcases List.mem_append.mp ht with y | y
  · exact ok.ok t y
  · rw [List.mem_singleton.mp y]; exact h⟩
end
/-! the rows that k07 ends with -/
def r1 : List Say := [.isn 0 [97, 110, 110], .isn 1 [98, 111, 98], .sam 0 2, .sam 2 1]
def r2 : List Say := [.nob 0, .isn 0 [97, 110, 110], .isn 1 [97, 110, 110]]
def r3 : List Say := [.nob 0, .isn 0 [97, 110, 110]]
def r4 : List Say := [.apa 0 1, .isn 1 [97, 110, 110], .isn 0 [97, 110, 110]]
def r5 : List Say := [.isn 0 [97, 110, 110], .isn 0 [98, 111, 98]]
def rows07 : List (List Say) := [r1, r2, r3, r4, r5]
def ann : List Nat := [97, 110, 110]
def bob : List Nat := [98, 111, 98]
theorem ann_ok : NameL ann := ⟨by decide, by decide, by decide⟩
theorem bob_ok : NameL bob := ⟨by decide, by decide, by decide⟩
theorem rows_ok {r : List Say} (h : r ∈ rows07) : SaysOk 3 r := by
  simp only [rows07, List.mem_cons, List.not_mem_nil, or_false] at h
  have a := ann_ok
  have b := bob_ok
  rcases h with rfl | rfl | rfl | rfl | rfl <;> refine ⟨by decide, by decide, fun s hs => ?_⟩ <;> simp only [r1, r2, r3, r4, r5, List.mem_cons, List.not_mem_nil, or_false] at hs
  · rcases hs with rfl | rfl | rfl | rfl <;> first | exact ⟨by decide, by decide, a⟩ | exact ⟨by decide, by decide, b⟩ | exact ⟨by decide, by decide, by decide, by decide, by decide⟩
  · rcases hs with rfl | rfl | rfl <;> first | exact ⟨by decide, by decide, a⟩ | exact ⟨by decide, by decide⟩
  · rcases hs with rfl | rfl <;> first | exact ⟨by decide, by decide, a⟩ | exact ⟨by decide, by decide⟩
  · rcases hs with rfl | rfl | rfl <;> first | exact ⟨by decide, by decide, a⟩ | exact ⟨by decide, by decide, by decide, by decide, by decide⟩
  · rcases hs with rfl | rfl <;> first | exact ⟨by decide, by decide, a⟩ | exact ⟨by decide, by decide, b⟩
theorem edge_of {says : List Say} {s : Say} {a b : Key} (hs : s ∈ says) (h : (a, b) ∈ s.tie) : Conn (ties says) a b := .edge (List.mem_flatMap.mpr ⟨s, hs, h⟩)
theorem txne : tx ann ≠ tx bob := fun e => absurd (tx_inj e) (by decide)
theorem bad1 : ¬ Sound 3 r1 := fun S => by
  have e1 : Conn (ties r1) (.inl 0) (.inr (tx ann)) := edge_of (s := .isn 0 ann) (by simp [r1, ann]) (by simp [Say.tie])
  have e2 : Conn (ties r1) (.inl 1) (.inr (tx bob)) := edge_of (s := .isn 1 bob) (by simp [r1, bob]) (by simp [Say.tie])
  have e3 : Conn (ties r1) (.inl 0) (.inl 2) := edge_of (s := .sam 0 2) (by simp [r1]) (by simp [Say.tie])
  have e4 : Conn (ties r1) (.inl 2) (.inl 1) := edge_of (s := .sam 2 1) (by simp [r1]) (by simp [Say.tie])
  exact txne (S.nam 0 (by decide) (by decide) _ _ e1 ((e3.trans e4).trans e2))
theorem bad2 : ¬ Sound 3 r2 := fun S => by
  have e1 : Conn (ties r2) (.inl 0) (.inr (tx ann)) := edge_of (s := .isn 0 ann) (by simp [r2, ann]) (by simp [Say.tie])
  have e2 : Conn (ties r2) (.inl 1) (.inr (tx ann)) := edge_of (s := .isn 1 ann) (by simp [r2, ann]) (by simp [Say.tie])
  exact absurd (S.sin 0 (by simp [r2]) 1 (e1.trans e2.symm)) (by decide)
theorem good3 : Sound 3 r3 := true_sound (pe := [0, 1, 2]) (nms := [ann]) (by simp) (by decide) (fun s hs => by
  simp only [r3, List.mem_cons, List.not_mem_nil, or_false] at hs
  rcases hs with rfl | rfl
  · exact ⟨by decide, by decide, by decide⟩
  · exact ⟨by decide, by decide, rfl⟩)
theorem bad4 : ¬ Sound 3 r4 := fun S => by
  have e1 : Conn (ties r4) (.inl 1) (.inr (tx ann)) := edge_of (s := .isn 1 ann) (by simp [r4, ann]) (by simp [Say.tie])
  have e2 : Conn (ties r4) (.inl 0) (.inr (tx ann)) := edge_of (s := .isn 0 ann) (by simp [r4, ann]) (by simp [Say.tie])
  exact S.bar 0 1 (by simp [r4]) (e2.trans e1.symm)
theorem bad5 : ¬ Sound 3 r5 := fun S => by
  have e1 : Conn (ties r5) (.inl 0) (.inr (tx ann)) := edge_of (s := .isn 0 ann) (by simp [r5, ann]) (by simp [Say.tie])
  have e2 : Conn (ties r5) (.inl 0) (.inr (tx bob)) := edge_of (s := .isn 0 bob) (by simp [r5, bob]) (by simp [Say.tie])
  exact txne (S.nam 0 (by decide) (by decide) _ _ e1 e2)
/-- whether a row is sound -/
def snd07 (r : List Say) : Bool := r.length == 2 && r.any fun s => match s with
  | .nob _ => true
  | _ => false
theorem snd07_is {r : List Say} (h : r ∈ rows07) : snd07 r = true ↔ Sound 3 r := by
  simp only [rows07, List.mem_cons, List.not_mem_nil, or_false] at h
  rcases h with rfl | rfl | rfl | rfl | rfl
  · exact ⟨fun h => absurd h (by decide), fun h => absurd h bad1⟩
  · exact ⟨fun h => absurd h (by decide), fun h => absurd h bad2⟩
  · exact ⟨fun _ => good3, fun _ => by decide⟩
  · exact ⟨fun h => absurd h (by decide), fun h => absurd h bad4⟩
  · exact ⟨fun h => absurd h (by decide), fun h => absurd h bad5⟩
theorem snd_0 : Sound 0 [] := true_sound (pe := []) (nms := []) (by simp) (by simp) (by simp)
theorem b_eq {b c : Bool} {a : Alb} {m : Nat} {says : List Say} (i1 : b = true ↔ Sound a.many a.says) (e1 : a.many = m) (e2 : a.says = says) (i2 : c = true ↔ Sound m says) : b = c := by
  rw [e1, e2] at i1
  have := i1.trans i2.symm
  cases b <;> cases c <;> simp at this ⊢
/-! ### 60. C(..).m, C(..).m(..): the new instance is data at once -/
def FrzK (R : D → Mm → Prop) (d : D) (M : Mm) : Prop := ∃ p cl, d = .ptr p ∧ M p = some cl ∧ R cl.data (M.del p)
section
variable {X : Cx} {w : Wi} {Γ Γ' : Ga} {M : Mm} {Q : D → Mm → Prop} {c m : Str} {e : Expr} {es as : List Expr} {kws : List Keyword} {pos p pos2 apos : Pos} {k k0 k1 : Nat} {n : Nm} {ps : List Str} {KW : List KwF} {S : SpD}
theorem de_freezeK (h : DE X w e Γ M (FrzK Q)) : DE X w e Γ M Q := de_freeze h
def AttK (X : Cx) (k0 : Nat) (m : Str) (Q : D → Mm → Prop) (x : D) (M : Mm) : Prop := pFld X.K X.mg m x M Q ∨ ∃ c k S, PrpD X.prog X.w X.K X.mg X.base k c m S ∧ k + 1 ≤ k0 ∧ x.isO c m M ∧ S [x] M Q fun _ _ _ => False
theorem de_attrF (Sx : Sc X k0 n) (C : IniD X.prog X.w X.K X.mg X.base k c ps KW S) (hb : attributeBase (.Call (.Name c p) es kws pos) m X.env (eval (.Call (.Name c p) es kws pos) X.env) = eval (.Call (.Name c p) es kws pos) X.env)
    (h : DE X w (.Call (.Name c p) es kws pos) Γ M (FrzK (AttK X k0 m Q))) : DE X w (.Attribute (.Call (.Name c p) es kws pos) m pos2) Γ M Q := de_attr Sx hb (de_freeze h)
theorem lf_att {x : D} (h : pFld X.K X.mg m x M Q ∨ ∃ c k S, PrpD X.prog X.w X.K X.mg X.base k c m S ∧ k + 1 ≤ k0 ∧ x.isO c m M ∧ S [x] M Q fun _ _ _ => False) : AttK X k0 m Q x M := h
end
end L3
/-! ### 61. An own error's __init__ that begins with super().__init__(text) -/
namespace L3X
open PySem PySem.Spec PyProof.Rows L2
/-- names: the parameters (plain locals), super (a global), __class__ (captured) -/
structure ScopeS (ps : List Str) (sc : Scope) : Prop where
  kind : sc.kind = .function
  co : sc.isCoroutine = false
  gen : sc.isGenerator = false
  nd : ps.Nodup
  par : ∀ x ∈ ps, sc.names.lookup x = some .local
  nocell : ∀ y ∈ sc.names, y.2 ≠ .cell
  free : ∀ y ∈ sc.names, y.2 = .free → y.1 = ("__class__" : Str)
  sup : sc.names.lookup ("super" : Str) = some .globalImplicit
  cls : sc.names.lookup ("__class__" : Str) = some .free
def scopeSB (ps : List Str) (sc : Scope) : Bool :=
  decide (sc.kind = .function) && (!sc.isCoroutine && (!sc.isGenerator && (decide ps.Nodup && (ps.all (fun x => decide (sc.names.lookup x = some .local)) && (sc.names.all (fun y => decide (y.2 ≠ .cell)) && (sc.names.all (fun y => !decide (y.2 = .free) || decide (y.1 = ("__class__" : Str))) &&
  (decide (sc.names.lookup ("super" : Str) = some .globalImplicit) && decide (sc.names.lookup ("__class__" : Str) = some .free))))))))
theorem scopeS_of {ps : List Str} {sc : Scope} (h : scopeSB ps sc = true) : ScopeS ps sc := by
  unfold scopeSB at h
  simp only [Bool.and_eq_true, decide_eq_true_eq, List.all_eq_true, Bool.not_eq_true', Bool.or_eq_true, decide_eq_false_iff_not] at h
  obtain ⟨h1, h2, h3, h4, h5, h6, h7, h8, h9⟩ := h
  exact ⟨h1, h2, h3, h4, h5, h6, fun y hy e => (h7 y hy).elim (fun z => absurd e z) id, h8, h9⟩
abbrev envS (qual : Str) (scope : Scope) (L f cda cc : Addr) : Env := PySem.W.ksEnv qual scope L f (.ref cda) cc
def cxS (CX : CXT) (P : Program) (w : World) (K : PySem.W.Frag) (mg : Str → Option Value) (base : Heap) (ps : List Str) (qual : Str) (scope : Scope) (f cda cc : Addr) (A : Around) (outer : List Env) (s : Shared) (H : Hp) (E : XK) : Cx where
  prog := P
  w := w
  K := K
  mg := mg
  base := base
  A := A.deeper (envS qual scope s.heap.objs.size f cda cc)
  N := ps
  s_0 := s
  H_0 := H
  env := envS qual scope s.heap.objs.size f cda cc
  outer := outer
  stack := envS qual scope s.heap.objs.size f cda cc :: outer
  ex := []
  calm := true
  fn := fun _ => false
  pn := []
  xe := fun e s' => wpAny (model P w) (A.deeper (envS qual scope s.heap.objs.size f cda cc)) (leaving (envS qual scope s.heap.objs.size f cda cc) e) (fun _ s'' => CX outer H s E e s'') (fun e' s'' => CX outer H s E e' s'') s'
theorem look_rev {x : Str} {u : Value} : ∀ {ps : List Str} {us : List Value} {i : Nat}, ps.Nodup → ps[i]? = some x → us[i]? = some u → (ps.zip us).reverse.lookup x = some u
  | [], _, _, _, h, _ => by simp at h
  | _ :: _, [], _, _, _, h => by simp at h
  | p :: ps, v :: us, 0, nd, h1, h2 => by
    simp only [List.getElem?_cons_zero, Option.some.injEq] at h1 h2
    subst h1 h2
    rw [List.zip_cons_cons, List.reverse_cons, List.lookup_append]
    have : (ps.zip us).reverse.lookup p = none := by
      rw [List.lookup_eq_none_iff]
      intro q hq
      have := (List.of_mem_zip (List.mem_reverse.mp hq)).1
      have ne : p ≠ q.1 := fun e => (List.nodup_cons.mp nd).1 (e ▸ this)
      simpa using ne
    rw [this]
    simp
  | p :: ps, v :: us, i + 1, nd, h1, h2 => by
    simp only [List.getElem?_cons_succ] at h1 h2
    rw [List.zip_cons_cons, List.reverse_cons, List.lookup_append, look_rev (List.nodup_cons.mp nd).2 h1 h2]
    rfl
theorem inv_S {CX : CXT} {P : Program} {w : World} {K : PySem.W.Frag} {mg : Str → Option Value} {base : Heap} {ps : List Str} {qual : Str} {scope : Scope} {f cda cc : Addr} {A : Around} {outer : List Env} {s : Shared} {H : Hp} {E : XK} {us : List Value} {vs : List V} {h1 : Heap} {tk : Nat} {oc : Obj} {cv : Option Value}
    (S : ScopeS ps scope) (hd : A.handled = none) (e0 : Env0 P w K mg base A outer s H) (lc : K.lookup cc = some oc) (dc : oc.data = .cell cv) (hl : vs.length = ps.length) (r : Vals vs us)
    (hns : h1.Ns s.heap.objs.size fun y => (ps.zip us).reverse.lookup y) (hk : ∀ b o, s.heap.get? b = some o → h1.get? b = some o) : Inv (cxS CX P w K mg base ps qual scope f cda cc A outer s H E) [] (L2.start ps vs) H { s with heap := h1, toks := tk } := by
  have cb := e0.mod.kin cc oc lc
  have cs := e0.bs cc oc cb
  have one : ∀ x c, (envS qual scope s.heap.objs.size f cda cc).cells.lookup x = some c → x = ("__class__" : Str) ∧ c = cc := fun x c h => by
    have h : ([(("__class__" : Str), cc)] : List (Str × Addr)).lookup x = some c := h
    rw [List.lookup_cons] at h
    split at h
    · rename_i z
      exact ⟨by simpa using z, (Option.some.inj h).symm⟩
    · cases h
  have nA : ∀ {α : Type} {b : α}, b ∉ ([] : List α) := fun z => by cases z
  refine ⟨⟨e0.mod, S.kind, rfl, rfl, Nat.le_refl _, fun x y c h g => (one x c h).1.trans (one y c g).1.symm, fun x hx => ?_, fun x c z => Bool.noConfusion z, fun _ => hd, Around.frames_deeper e0.frames, .inr ⟨rfl, rfl⟩, fun b z => absurd z nA, e0.bs, e0.bsz, fun b _ _ => nA, fun b z => absurd z nA, e0.funs, e0.frf⟩,
    rfl, e0.bare, Un.kept hk, ⟨_, hns, fun i x v h g _ => ?_⟩, fun x c h => ?_, e0.hok.fresh (Nat.le_refl _), fun x c h => by rw [(one x c h).2]; exact cs.2, fun p z => absurd z nA, e0.hok.kept hk, by show (L2.start ps vs).length = ps.length; unfold L2.start; simp [hl]⟩
  · have hx : scope.names.lookup x = some .cell ∨ scope.names.lookup x = some .free := hx
    rcases hx with hx | hx
    · exact absurd rfl (S.nocell _ (PySem.mem_of_lookup hx))
    · have := S.free _ (PySem.mem_of_lookup hx) rfl
      dsimp only at this
      exact ⟨cc, by rw [this]; rfl⟩
  · have hv : vs[i]? = some v := by
      unfold L2.start at g
      rw [hl, Nat.sub_self, List.replicate_zero, List.append_nil, List.getElem?_map] at g
      cases e : vs[i]? with
      | none => rw [e] at g; cases g
      | some a => rw [e] at g; cases g; rfl
    obtain ⟨u, hu, rv⟩ := r.get hv
    exact ⟨u, rv, .inl ⟨S.par x (List.mem_of_getElem? h), look_rev S.nd h hu⟩⟩
  · rw [(one x c h).2]
    exact ⟨cv, oc, hk _ _ cs.1, dc⟩
/-- the text, handed to the base's __init__ that is bound to the object -/
theorem call_mw {prog : Program} {w : World} {A : Around} {E : Value → Shared → Prop} {h : Heap} {g : Array GenState} {d : Drawn} {t : Nat} {os : OsState} {nm q : Str} {C N : Addr} {bs bm bmB : List Value} {hdct : Bool} {sn : List Str} {sub : List Value} {ab : Bool} {col : Option Bool} {dd : Option Addr} {k0 k1 k2 k3 k5 : Option Value} {B newId i : String}
    {u e t0 : Addr} {rest : List Value} {Q : Value → Shared → Prop} (FB : ExcBaseFacts B newId i bmB) (hC : h.get? C = some (PySem.excClassObj nm q C N bs bm hdct sn sub ab col dd k0 k1 k2 k3 k5 newId)) (he : h.get? e = some (PySem.W.excObj C t0 none .none)) (hu : h.get? u = some (PySem.W.kxs_mw i e)) (hz : rest.length ≤ sizeLine)
    (hq : ∀ h' t1, (∀ b o, b ≠ e → h.get? b = some o → h'.get? b = some o) → h'.get? e = some (PySem.W.excObj C t1 none .none) → Q .none ⟨h', g, d, t, os⟩) : wpAny (model prog w) A (call (.ref u) rest) Q E ⟨h, g, d, t, os⟩ := by
  refine wpAny_call (codeAny_of_tree (show wpAny _ A.in1 (callAny (.ref u) ⟨rest, []⟩) _ _ _ from ?_))
  simp only [callAny]
  refine wpAny_bind (wpAny_load hu ?_)
  have e1 : (Value.type "method-wrapper" == Value.type "method" || Value.type "method-wrapper" == Value.type "builtin_function_or_method" || Value.type "method-wrapper" == Value.type "method-wrapper") = true := by decide
  simp only [PySem.W.kxs_mw, e1, if_true]
  refine PySem.W.KFB.if_so (by decide) (wpAny_bind (PySem.W.check_bound_init FB.toExcCallFacts hC he rfl (wpAny_bind (wpAny_pure (wpAny_pure ?_)))))
  exact ⟨plainId_quiet FB.init.plain _, codeAny_builtin FB.initEntry (PySem.W.exc_init_tree (cls := .ref C) (t0 := t0) (dv := none) (c2 := .none) (c3 := .none) (b4 := .bool false) he hz fun h' k e' t' => hq h' _ k e')⟩
end L3X
namespace L3X
open PySem PySem.Spec PyProof.Rows L2
/-- what the written part says of an error's class at C, whose __init__ stands in the class at D (its cell at cc, its code at cda) -/
structure SupC (P : Program) (K : PySem.W.Frag) (C D cc cda : Addr) (B i newId : String) : Prop where
  cls : ∃ nm q N bs bm sn sub ab col dd k0 k1 k2 k3 k5, K.lookup C = some (PySem.excClassObj nm q C N bs bm true sn sub ab col dd k0 k1 k2 k3 k5 newId)
  cell : ∃ cl cld csl, K.lookup cc = some ⟨cl, cld, .cell (some (.ref D)), csl⟩
  code : ∃ ccl cdd vs ccs file tf, K.lookup cda = some ⟨ccl, cdd, .fields vs, ccs⟩ ∧ vs[2]? = some (.str file tf) ∧ ((P.main.file : Str) == file) = true
  clD : ∃ cd, PySem.W.clsIn K D = some cd
  sub : PySem.W.mroIn K C (.ref D) = some true
  nosuper : PySem.W.nsIn K mainGlobals "super" = some none
  noname : (P.main.scope.names.lookup ("super" : Str)).isSome = false
  up : PySem.W.ks_superIn K C D "__init__" = some (some (.builtin i))
  subB : PySem.W.subIn K (.ref C) (.type B) = some true
  opq : PySem.W.nsIn K cStatics "thirdparty.any" = some none
theorem boot_super : bootBuiltins ("super" : Str) = some (.type "super") := by kernel_rfl
/-- the first row of such an __init__ -/
theorem first_row {CX : CXT} {P : Program} {w : World} {K : PySem.W.Frag} {mg : Str → Option Value} {base : Heap} {ps : List Str} {qual : Str} {scope : Scope} {f cda cc C D a : Addr} {A : Around} {outer : List Env} {s0 s : Shared} {H0 H : Hp} {E : XK} {σ : L2.St} {pins : List (Addr × Obj)} {params : Arguments} {body : List Stmt} {p0 p1 p2 p3 p4 p5 : Pos} {tx : Str} {j : Nat} {kV doc pm ct oc : Value} {an od : Option Addr} {osl : Array (Option Value)} {ar : Arg} {B i newId : String} {bmB : List Value}
    (S : ScopeS ps scope) (T : SupC P K C D cc cda B i newId) (FB : ExcBaseFacts B newId i bmB) (KF : PySem.W.KxsFacts B i) (lk : K.lookup f = some ⟨oc, od, .func (PySem.W.ksFn "__init__" qual params body scope .none kV doc pm an (.ref cda) ct cc), osl⟩)
    (hp : (params.posonlyargs ++ params.args).head? = some ar) (hps : ps[0]? = some ar.arg) (mgs : mg "super" = none)
    (I : L2.Inv (cxS CX P w K mg base ps qual scope f cda cc A outer s0 H0 E) pins σ H s) (hs : σ[0]? = some (some (.ref a))) (e : H a = some (exo a C none))
    {pl : Sem Bool} (he : ∀ en : Env, eval (.Call (.Attribute (.Call (.Name "super" p0) [] [] p1) "__init__" p2) [.Constant (.str tx) j p3] [] p4) en = (do
      let ov ← attributeBase (.Call (.Name "super" p0) [] [] p1) "__init__" en (eval (.Call (.Name "super" p0) [] [] p1) en)
      standAt p2.atName
      let (f, first) ← holding [ov] (getMethod ov "__init__" pl)
      callWith p4 f first (backTo p4 (starEach [.Constant (.str tx) j p3] en)) []))
    {Q : Flow → Shared → Prop} {EE : Value → Shared → Prop} (q : ∀ s', L2.Inv (cxS CX P w K mg base ps qual scope f cda cc A outer s0 H0 E) pins σ H s' → Q .next s') :
    _root_.PySem.wpAt (model P w) (A.deeper (envS qual scope s0.heap.objs.size f cda cc)) (.func body (envS qual scope s0.heap.objs.size f cda cc)) (exec (.Expr (.Call (.Attribute (.Call (.Name "super" p0) [] [] p1) "__init__" p2) [.Constant (.str tx) j p3] [] p4) p5) (envS qual scope s0.heap.objs.size f cda cc)) Q EE s := by
  obtain ⟨nm, qq, N, bs, bm, sn, sub, ab, col, dd, k0, k1, k2, k3, k5, hC⟩ := T.cls
  obtain ⟨cl, cld, csl, hcell⟩ := T.cell
  obtain ⟨ccl, cdd, vs, ccs, file, tf, hcode, hvs, hfile⟩ := T.code
  obtain ⟨cdD, hD⟩ := T.clD
  have KX : K.In s.heap := I.kIn
  obtain ⟨t0, ho⟩ := exo_at I.hok e
  have ho : s.heap.get? a = some (PySem.W.excObj C t0 none .none) := ho
  have ins : PySem.W.InstAt s.heap a (PySem.W.excObj C t0 none .none) C none := ⟨ho, rfl, rfl, trivial⟩
  obtain ⟨oD, hD1, hD2⟩ : ∃ oD, s.heap.get? D = some oD ∧ oD.data = .cls cdD := by
    unfold PySem.W.clsIn at hD
    split at hD
    · rename_i c d cd' sl ho
      cases hD
      exact ⟨_, KX _ _ ho, rfl⟩
    · cases hD
  have par0 := S.par _ (List.mem_of_getElem? hps)
  refine PySem.ks_wpAt_Expr_any (hi := I.quiet) (PySem.ks_wpAt_MethodCall (pl := pl) ?_ (he _))
  refine PySem.ks_wpAt_super_base S.sup S.cls (by decide) rfl (KX _ _ lk) rfl hp rfl (KX _ _ hcode) rfl hvs hfile T.noname ?_
  obtain ⟨mb, b1, b2⟩ := I.mod.blt
  obtain ⟨mL, hns, hlk⟩ := I.loc
  obtain ⟨ua, rua, lka⟩ := hlk 0 _ _ hps hs (.inl par0)
  obtain rfl : ua = Value.ref a := rua
  have hva : mL ar.arg = some (.ref a) := by
    rcases lka with ⟨_, z⟩ | ⟨z, _⟩
    · exact z
    · rcases z with z | z
      · exact absurd (z.symm.trans par0) (by decide)
      · exact absurd (z.symm.trans par0) (by decide)
  have hnn : ("super" : Str) ≠ "__name__" := by decide
  refine PySem.W.ks_loadName_global S.kind S.sup (Calls.loadGlobal_builtin (I.mod.glob.keeps I.bk) mgs (b1.keeps I.bk) ((b2 _ hnn).trans boot_super) ⟨rfl, ?_⟩)
  refine wpAny_loadName_free S.kind S.cls rfl ⟨_, KX _ _ hcell, rfl⟩ ?_
  refine PySem.wpAny_loadName_local S.kind par0 hns hva ?_
  refine PySem.ks_wpAny_isType_cls hD1 hD2 ⟨rfl, ?_⟩
  refine PySem.ks_wpAny_call_super hD1 hD2 ins.at_ ins.cls (fun c z => ?_) (PySem.W.looks_mroIn KX T.sub) (fun h' z k => ?_)
  · cases z
  have hso : h'.get? s.heap.objs.size = some { cls := .type "super", dict := none, data := .fields #[.ref D, .ref a, .ref C], slots := #[] } := z
  have I1 : L2.Inv (cxS CX P w K mg base ps qual scope f cda cc A outer s0 H0 E) pins σ H { s with heap := h' } := I.kept (t' := s.toks) k
  obtain ⟨hh, g, d, t, os⟩ := s
  dsimp only at *
  have K1 : K.In h' := I1.kIn
  have ho1 : h'.get? a = some (PySem.W.excObj C t0 none .none) := k _ _ ho
  have ins1 : PySem.W.InstAt h' a (PySem.W.excObj C t0 none .none) C none := ⟨ho1, rfl, rfl, trivial⟩
  obtain ⟨cdC, hcC, hal⟩ : ∃ cd, PySem.W.clsIn K C = some cd ∧ PySem.W.alongIn K "__init__" ((cd.mro.dropWhile (· != .ref D)).drop 1) = some (some (.builtin i)) := by
    have u := T.up
    unfold PySem.W.ks_superIn at u
    cases hc : PySem.W.clsIn K C with
    | none => rw [hc] at u; cases u
    | some cd => rw [hc] at u; exact ⟨cd, rfl, u⟩
  refine PySem.W.kxs_getMethod KF hso (PySem.W.looks_opaque K1 T.opq) (l₀ := cdC.mro) (fun A Q E s k q => wpAny_bind ((PySem.W.looks_clsIn K1 hcC) A _ E s k (wpAny_pure q))) rfl K1 hal (ins1.type.andThen (PySem.W.looks_subIn K1 T.subB)) (PySem.W.ks_ne K1 ins1 hcC) (by decide) ?_
  have k2 : ∀ b o, h'.get? b = some o → (h'.push (PySem.W.kxs_mw i a)).get? b = some o := fun b o e => Heap.get?_push_of_some _ e
  have hu2 : (h'.push (PySem.W.kxs_mw i a)).get? h'.objs.size = some (PySem.W.kxs_mw i a) := Heap.get?_push_at rfl rfl
  refine PySem.W.kxs_callWith (i := i) (x := a) rfl (Calls.evalArgs_plain (PyProof.Rows.args_cons (wpAny_Constant_str (PyProof.Rows.args_nil ⟨hu2, ?_⟩))))
  refine call_mw (C := C) (t0 := t0) FB (k2 _ _ (K1 _ _ hC)) (k2 _ _ ho1) hu2 (by rw [sizeLine_eq]; simp) fun h2 t1 kk he2 => q _ ?_
  have J := I1.write (t' := t + 1 + 1) (x := a) (e := a) (o := exo a C none) (by rw [e]; exact True.intro) (.inl rfl) (fun b o hb hx => kk b o hb (k2 _ _ hx)) ⟨_, he2⟩ (exo_ok he2)
  have eu : upd H a (exo a C none) = H := by
    funext b
    by_cases hb : b = a
    · subst hb; rw [upd_same, e]
    · rw [upd_ne hb]
  rw [eu] at J
  exact J
/-- such an __init__: behind its first row, the rest is walked -/
theorem fn_exc {CX : CXT} {P : Program} {w : World} {K : PySem.W.Frag} {mg : Str → Option Value} {base : Heap} {ps : List Str} {qual : Str} {scope : Scope} {f cda cc D : Addr} {k : Nat} {sp : Sp} {params : Arguments} {rest : List Stmt} {p0 p1 p2 p3 p4 p5 : Pos} {tx : Str} {j : Nat} {kV doc pm ct oc : Value} {an od : Option Addr} {osl : Array (Option Value)} {ar : Arg} {B i newId : String} {bmB : List Value}
    (S : ScopeS ps scope) (FB : ExcBaseFacts B newId i bmB) (KF : PySem.W.KxsFacts B i)
    (lk : K.lookup f = some ⟨oc, od, .func (PySem.W.ksFn "__init__" qual params (.Expr (.Call (.Attribute (.Call (.Name "super" p0) [] [] p1) "__init__" p2) [.Constant (.str tx) j p3] [] p4) p5 :: rest) scope .none kV doc pm an (.ref cda) ct cc), osl⟩) (hcd : PySem.W.codeIn K (.ref cda) qual = true)
    (hp : (params.posonlyargs ++ params.args).head? = some ar) (hps : ps[0]? = some ar.arg) (mgs : mg "super" = none)
    {pl : Sem Bool} (he : ∀ en : Env, eval (.Call (.Attribute (.Call (.Name "super" p0) [] [] p1) "__init__" p2) [.Constant (.str tx) j p3] [] p4) en = (do
      let ov ← attributeBase (.Call (.Name "super" p0) [] [] p1) "__init__" en (eval (.Call (.Name "super" p0) [] [] p1) en)
      standAt p2.atName
      let (f, first) ← holding [ov] (getMethod ov "__init__" pl)
      callWith p4 f first (backTo p4 (starEach [.Constant (.str tx) j p3] en)) []))
    (len : ∀ vs H Q E, sp vs H Q E → vs.length = ps.length)
    (hsp : ∀ vs H Q E, sp vs H Q E → ∃ a C, vs[0]? = some (.ref a) ∧ H a = some (exo a C none) ∧ SupC P K C D cc cda B i newId)
    (hbody : ∀ (A : Around) (outer : List Env) (s : Shared) (H : Hp) (vs : List V) (Q : VK) (E : XK), Room k (A.deeper (envS qual scope s.heap.objs.size f cda cc)) → sp vs H Q E →
      ∃ t, PSs (cxS CX P w K mg base ps qual scope f cda cc A outer s H E) rest t ∧ t { nx := fun _ H' => Q .non H', rt := Q } (L2.start ps vs) H) :
    FnOk P w K mg base CX (k + 1) f (PySem.W.ksFn "__init__" qual params (.Expr (.Call (.Attribute (.Call (.Name "super" p0) [] [] p1) "__init__" p2) [.Constant (.str tx) j p3] [] p4) p5 :: rest) scope .none kV doc pm an (.ref cda) ct cc) ps sp := by
  refine ⟨len, fun A outer s H args us vs Q E hr e0 hb r q => ?_⟩
  have hl := len _ _ _ _ q
  have KX : K.In s.heap := e0.mod.kin.keeps fun b o e => (e0.bs b o e).1
  have lim : s.heap.NoLimit := e0.mod.nolimit.keeps fun b o e => (e0.bs b o e).1
  obtain ⟨a, C, h0, ha, T⟩ := hsp _ _ _ _ q
  obtain ⟨cl, cld, csl, hcell⟩ := T.cell
  refine PySem.ks_codeAny_call_defAt (binds := ps.zip us) hr.depth (KX _ _ lk) rfl lim (PySem.W.codeRec_of KX hcd) rfl hb S.nocell (fun y hy => S.par _ (List.of_mem_zip hy).1) (fun h1 hns hk => ?_) S.co S.gen S.kind
  have I : L2.Inv (cxS CX P w K mg base ps qual scope f cda cc A outer s H E) [] (L2.start ps vs) H { s with heap := h1, toks := s.toks + (ps.zip us).length } := inv_S S hr.hd e0 hcell rfl hl r hns hk
  obtain ⟨t, ht, hq⟩ := hbody A outer s H vs Q E (hr.deeper _) q
  have s0 : (L2.start ps vs)[0]? = some (some (.ref a)) := by
    unfold L2.start
    rw [hl, Nat.sub_self, List.replicate_zero, List.append_nil, List.getElem?_map, h0]
    rfl
  refine PySem.ks_wpAt_execs_cons (first_row S T FB KF lk hp hps mgs I s0 ha he fun s' J => ?_)
  refine wpAt_of_wpAny (wpAny_mono (ht.run [] s' _ H _ J hq) (fun fl s2 hs => ?_) fun e s2 hs => hs)
  have fin : ∀ {σ' : L2.St} {H' : Hp} {v : V} {u : Value}, L2.Inv (cxS CX P w K mg base ps qual scope f cda cc A outer s H E) [] σ' H' s2 → RelV v u → Q v H' → CE outer P w H s Q u s2 :=
    fun {σ' H' v u} J rv q => ⟨v, H', J.os, J.bare, J.base, J.hok, rv, q⟩
  cases fl with
  | ret u =>
    obtain ⟨v, σ', H', J, rv, q⟩ := hs
    exact fin J rv q
  | next =>
    obtain ⟨σ', H', J, q⟩ := hs
    exact fin (v := .non) (u := .none) J rfl q
  | brk => obtain ⟨_, _, _, q⟩ := hs; exact q.elim
  | cont => obtain ⟨_, _, _, q⟩ := hs; exact q.elim
end L3X
/-! ### 62. Errors raised -/
namespace L3X
open PySem PySem.Spec PyProof.Rows L2
section
variable {X : Cx} {p pos : Pos} {e : Expr} {es : List Expr} {ta : TA}
/-- a new error: C(..) called with the values us -/
theorem run_oex {CX : CXT} {C fI : Addr} {k : Nat} {fd : FuncData} {ps : List Str} {sp : Sp} {pins : List (Addr × Obj)} {σ : L2.St} {H1 : Hp} {Q : XK} {s1 : Shared} {us : List Value} {vs : List V} (T : OexC X.K C) (iC : PySem.W.findIn X.K (.ref C) "__init__" = some (some (.ref fI))) (tI : PySem.W.typeIn X.K (.ref fI) = some (.type "function"))
    (F1 : FnOk X.prog X.w X.K X.mg X.base CX k fI fd ps sp) (hr : Room (k + 1) X.A) (hb : Binds X.K fd ps []) (hx : Passes CX X (fun _ _ _ => False)) (I1 : L2.Inv X pins σ H1 s1) (r1 : Vals vs us) (hz : vs.length ≤ 1000)
    (q1 : ∀ a, H1 a = none → sp (.ref a :: vs) (upd H1 a (exo a C none)) (fun v H2 => v = .non ∧ ∃ (d : Addr) (fs : List (Str × V)), H2 a = some (exo a C (some d)) ∧ H2 d = some (exd d fs) ∧ H1 d = none ∧ Q (.ref C) (some d) (upd (del H2 a) d (.xd fs))) (fun _ _ _ => False)) :
    wpAny (model X.prog X.w) X.A (call (.ref C) us) (MkP X pins σ Q) X.xe s1 := by
  obtain ⟨nm, q, N, bs, bm, sn, sub, ab, col, dd, k0, k1, k2, k3, k5, hC, hbm⟩ := T.cls
  obtain ⟨hp, g, dr, tk, os⟩ := s1
  have le1 : hp.objs.size ≤ hp.objs.size + 1 := Nat.le_succ _
  have kk : ∀ b o, hp.get? b = some o → ((hp.push (PySem.W.kdv_tup us)).push (PySem.HandSPX.excO C hp.objs.size)).get? b = some o := fun b o e => Heap.get?_push_of_some _ (Heap.get?_push_of_some _ e)
  have at1 : ((hp.push (PySem.W.kdv_tup us)).push (PySem.HandSPX.excO C hp.objs.size)).get? (hp.objs.size + 1) = some (PySem.HandSPX.excO C hp.objs.size) := by heap_get
  have J : L2.Inv X pins σ (upd H1 (hp.objs.size + 1) (exo (hp.objs.size + 1) C none)) ⟨(hp.push (PySem.W.kdv_tup us)).push (PySem.HandSPX.excO C hp.objs.size), g, dr, tk, os⟩ := I1.laid (t' := tk) (a := hp.objs.size + 1) (o := exo (hp.objs.size + 1) C none) (h' := (hp.push (PySem.W.kdv_tup us)).push (PySem.HandSPX.excO C hp.objs.size)) kk le1 (exo_ok at1)
  have hq := q1 _ (I1.hok.fresh le1)
  have r2 : Vals (V.ref (hp.objs.size + 1) :: vs) (Value.ref (hp.objs.size + 1) :: us) := .cons rfl r1
  have ll : (Value.ref (hp.objs.size + 1) :: us).length = ps.length := r2.length.symm.trans (F1.len _ _ _ _ hq)
  have lu : us.length ≤ sizeLine := by rw [← r1.length, sizeLine_eq]; omega
  have hb' : BindsTo ⟨(hp.push (PySem.W.kdv_tup us)).push (PySem.HandSPX.excO C hp.objs.size), g, dr, tk, os⟩ fd ⟨Value.ref (hp.objs.size + 1) :: us, []⟩ (ps.zip (Value.ref (hp.objs.size + 1) :: us)) := by
    have := hb _ (Value.ref (hp.objs.size + 1) :: us) J.kIn (by simpa using ll)
    simpa using this
  refine wpAny_call (PySem.HandSPX.call_own F.excBase_ValueError (fun Y => PySem.HandSPX.refsVE_contains Y bm hbm) (I1.kIn _ _ hC) (PySem.W.looks_findIn I1.kIn iC) (fun self => PySem.W.bind_fn I1.kIn self tI) lu (codeAny_mono (F1.run _ X.stack _ _ ⟨_, []⟩ _ _ _ (fun _ _ _ => False) (hr.make C us []) (J.env0.make C us []) hb' r2 hq) fun r s' h => ?_))
  cases r with
  | error er => exact hx pins σ _ _ er s' J h
  | ok fl =>
    cases fl with
    | ret u =>
      obtain ⟨v, H2, os2, bare2, un2, hok2, rv, ev, d, fs, ea, ed, hd1, q2⟩ := h
      subst ev
      obtain ⟨h2, g2, d2, t2, os'⟩ := s'
      exact ⟨rv, mk_end (raises_own T.exC T.tyC) I1 le1 kk un2 hok2 os2 bare2 ea ed hd1 q2⟩
    | next => exact h.elim
    | brk => exact h.elim
    | cont => exact h.elim
end
end L3X
namespace L3
open PySem PySem.Spec PyProof.Rows L2 L3X
/-- where a field's value comes from: a parameter, a written text -/
abbrev FSrc := List (Str × (Nat ⊕ Str))
def fldsV (fl : FSrc) (xs : List V) : List (Str × V) := fl.map fun q => (q.1, match q.2 with | .inl j => xs.getD j .non | .inr t => .str t)
def fldsD (fl : FSrc) (xs : List D) : List (Str × D) := fl.map fun q => (q.1, match q.2 with | .inl j => xs.getD j .non | .inr t => .str t)
theorem repF_flds {K : PySem.W.Frag} {mg : Str → Option Value} {Hb : Hp} {vs : List V} {ds : List D} (r : Reps K mg Hb vs ds) : ∀ {fl : FSrc}, (∀ q ∈ fl, ∀ j, q.2 = .inl j → j < ds.length) → RepF K mg Hb (fldsV fl vs) (fldsD fl ds)
  | [], _ => .nil
  | q :: fl, h => by
    refine .cons ?_ (repF_flds r fun q hq => h q (List.mem_cons_of_mem _ hq))
    cases z : q.2 with
    | inr t => exact .str
    | inl j =>
      have l := h q List.mem_cons_self j z
      obtain ⟨v, e1, e2⟩ := r.get (List.getElem?_eq_getElem l)
      show Rep K mg Hb (vs.getD j .non) (ds.getD j .non)
      rw [List.getD_eq_getElem?_getD, List.getD_eq_getElem?_getD, e1, List.getElem?_eq_getElem l]
      exact e2
/-- what such an __init__ does -/
def spErr (P : Program) (K : PySem.W.Frag) (C D cc cda : Addr) (n : Nat) (fl : FSrc) : Sp := fun vs H Q _ => ∃ (a : Addr) (xs : List V), vs = .ref a :: xs ∧ xs.length = n ∧ H a = some (exo a C none) ∧ SupC P K C D cc cda "ValueError" "ValueError.__init__" "ValueError.__new__" ∧ OexC K C ∧ (∀ q ∈ fl, PySem.W.findIn K (.ref C) q.1 = some none) ∧
  ∀ dx, H dx = none → dx ≠ a → Q .non (upd (upd H dx (exd dx (fldsV fl xs))) a (exo a C (some dx)))
/-- the error class c: raised with n values it bears the fields fl -/
structure ErrD (P : Program) (w : World) (K : PySem.W.Frag) (mg : Str → Option Value) (base : Heap) (k : Nat) (c : Str) (n : Nat) (fl : FSrc) : Prop where
  gm : mg c = some (.ref (ca mg c))
  ox : OexC K (ca mg c)
  src : ∀ q ∈ fl, ∀ j, q.2 = .inl j → j < n
  nf : ∀ q ∈ fl, PySem.W.findIn K (.ref (ca mg c)) q.1 = some none
  ex : ∃ fI fd ps D cc cda, PySem.W.findIn K (.ref (ca mg c)) "__init__" = some (some (.ref fI)) ∧ PySem.W.typeIn K (.ref fI) = some (.type "function") ∧ FnOk P w K mg base (L2.CX P w) k fI fd ps (spErr P K (ca mg c) D cc cda n fl) ∧ Binds K fd ps [] ∧ SupC P K (ca mg c) D cc cda "ValueError" "ValueError.__init__" "ValueError.__new__"
section
variable {X : Cx} {w : Wi} {Γ : Ga} {M : Mm} {Q : D → Mm → Prop} {P : Po} {c : Str} {e : Expr} {es : List Expr} {rest : List Stmt} {p pos pos2 : Pos} {k k0 m : Nat} {n : Nm} {fl : FSrc}
theorem raise_at {F Hb H : Hp} {σ : St} (A : At X w F Hb H σ Γ M) {ds : List D} {vs : List V} (r : Reps X.K X.mg Hb vs ds) (C : ErrD X.prog X.w X.K X.mg X.base k c m fl) (hl : ds.length = m) (q : w.ed Γ c (fldsD fl ds) M) {D cc cda : Addr} (T : SupC X.prog X.K (ca X.mg c) D cc cda "ValueError" "ValueError.__init__" "ValueError.__new__") :
    ∀ a, H a = none → spErr X.prog X.K (ca X.mg c) D cc cda m fl (.ref a :: vs) (upd H a (exo a (ca X.mg c) none)) (fun v H2 => v = .non ∧ ∃ (d : Addr) (fs : List (Str × V)), H2 a = some (exo a (ca X.mg c) (some d)) ∧ H2 d = some (exd d fs) ∧ H d = none ∧ LiftX X w (.ref (ca X.mg c)) (some d) σ (upd (del H2 a) d (.xd fs))) (fun _ _ _ => False) := by
  intro a ha
  refine ⟨a, vs, rfl, by rw [r.length]; exact hl, upd_same, T, C.ox, C.nf, fun dx h1 h2 => ⟨rfl, dx, fldsV fl vs, upd_same, ?_, ?_, ?_⟩⟩
  · rw [upd_ne h2, upd_same]
  · rwa [upd_ne h2] at h1
  · have h1 : H dx = none := by rwa [upd_ne h2] at h1
    have e : upd (del (upd (upd (upd H a (exo a (ca X.mg c) none)) dx (exd dx (fldsV fl vs))) a (exo a (ca X.mg c) (some dx))) a) dx (.xd (fldsV fl vs)) = upd H dx (.xd (fldsV fl vs)) := by
      funext b
      by_cases z1 : b = dx
      · subst z1; rw [upd_same, upd_same]
      · rw [upd_ne z1, upd_ne z1]
        by_cases z2 : b = a
        · subst z2; rw [del_same, ha]
        · rw [del_ne z2, upd_ne z2, upd_ne z1, upd_ne z2]
    rw [e]
    have A2 := A.junk h1 (.xd (fldsV fl vs))
    exact ⟨c, fldsD fl ds, dx, fldsV fl vs, F, Hb, Γ, M, rfl, rfl, upd_same, repF_flds r fun q hq j hj => by rw [hl]; exact C.src q hq j hj, A.h0, A.f0, A2.hs, A2.sl, q⟩
theorem pass_no {X : Cx} : Passes (L2.CX X.prog X.w) X (fun _ _ _ => False) := fun _ _ _ _ _ _ _ h => by
  obtain ⟨_, _, _, _, _, _, _, _, _, _, _, _, z⟩ := h
  exact z.elim
theorem ds_raise (Sx : Sc X k0 n) (C : ErrD X.prog X.w X.K X.mg X.base k c m fl) (hk : k + 1 ≤ k0) (hx : c ∈ n.glb) (he : starEach (e :: es) X.env = (false, eval e X.env) :: starEach es X.env) (hpl : (backTo pos (starEach es X.env)).any (·.1) = false) (hm : m ≤ 1000)
    (h : DA X w (e :: es) Γ M fun ds M1 => ds.length = m ∧ w.ed Γ c (fldsD fl ds) M1) : DS X w (.Raise (some (.Call (.Name c p) (e :: es) [] pos)) none pos2 :: rest) Γ M P := .mk fun F σ H Hb A => by
  obtain ⟨fI, fd, ps, D, cc, cda, iC, tI, F1, hb, T⟩ := C.ex
  have pk : PMk X (.Call (.Name c p) (e :: es) [] pos) (fun σ H Q => semA X (e :: es) σ H fun vs H1 => vs.length ≤ 1000 ∧ ∀ a, H1 a = none → spErr X.prog X.K (ca X.mg c) D cc cda m fl (.ref a :: vs) (upd H1 a (exo a (ca X.mg c) none))
      (fun v H2 => v = .non ∧ ∃ (d : Addr) (fs : List (Str × V)), H2 a = some (exo a (ca X.mg c) (some d)) ∧ H2 d = some (exd d fs) ∧ H1 d = none ∧ Q (.ref (ca X.mg c)) (some d) (upd (del H2 a) d (.xd fs))) (fun _ _ _ => False)) := by
    intro pins s σ H Q I h
    refine wpAny_Call_Name_kw (ld_glob I (Sx.gl c hx).1 C.gm ?_ (okN_d (Sx.gl c hx).2))
    refine PySem.W.callWith_K (h₀ := X.base) I.ok.mod.kin C.ox.kC (thn (h pos pins s I) fun us s1 ⟨vs, H1, I1, r1, hz, q1⟩ => ⟨I1.kIn, ?_⟩) he hpl
    exact run_oex C.ox iC tI F1 (Sx.room.mono hk) hb pass_no I1 r1 hz q1
  refine ds_seq (ps_raise Sx.calm A.wok pk) ?_
  refine semA_mono (h.run F σ H Hb A) fun vs H1 ⟨Hb1, ds, M1, e1, A1, r1, hl, q⟩ => ⟨by rw [r1.length, hl]; exact hm, raise_at A1 r1 C hl q T⟩
theorem ds_raise0 (Sx : Sc X k0 n) (C : ErrD X.prog X.w X.K X.mg X.base k c 0 fl) (hk : k + 1 ≤ k0) (hx : c ∈ n.glb) (h : w.ed Γ c (fldsD fl []) M) : DS X w (.Raise (some (.Call (.Name c p) [] [] pos)) none pos2 :: rest) Γ M P := .mk fun F σ H Hb A => by
  obtain ⟨fI, fd, ps, D, cc, cda, iC, tI, F1, hb, T⟩ := C.ex
  have pk : PMk X (.Call (.Name c p) [] [] pos) (fun σ H1 Q => ∀ a, H1 a = none → spErr X.prog X.K (ca X.mg c) D cc cda 0 fl [.ref a] (upd H1 a (exo a (ca X.mg c) none))
      (fun v H2 => v = .non ∧ ∃ (d : Addr) (fs : List (Str × V)), H2 a = some (exo a (ca X.mg c) (some d)) ∧ H2 d = some (exd d fs) ∧ H1 d = none ∧ Q (.ref (ca X.mg c)) (some d) (upd (del H2 a) d (.xd fs))) (fun _ _ _ => False)) := by
    intro pins s σ H Q I h
    refine wpAny_Call_Name_kw (ld_glob I (Sx.gl c hx).1 C.gm ?_ (okN_d (Sx.gl c hx).2))
    refine PySem.W.callWith_K0 I.kIn C.ox.kC ?_
    exact run_oex C.ox iC tI F1 (Sx.room.mono hk) hb pass_no I .nil (Nat.zero_le _) h
  exact ds_seq (ps_raise Sx.calm A.wok pk) (raise_at A .nil C rfl h T)
end
end L3
/-! ### 63. try: .. except (A, B, C) as n: .. -/
namespace L3X
open PySem PySem.Spec PyProof.Rows L2
/-- what the clause wishes of an exception of the body -/
def wTup (K : PySem.W.Frag) (cs : List Value) (i : Nat) (ts : Addr → Value → Option Addr → TS) (Wout : WX) (D : Ends) : WX := fun cls d σ H =>
  ∃ b, PySem.W.exmAny K cls cs = some b ∧ (b = true → ∀ a, H a = none → ts a cls d { nx := fun σ' H' => D.nx (σ'.set i none) H', rt := D.rt, bk := fun σ' H' => D.bk (σ'.set i none) H', ct := fun σ' H' => D.ct (σ'.set i none) H' } (σ.set i (some (.ref a))) H) ∧
    (b = false → Wout cls d σ H)
theorem fly_keep {B : Heap} {l : List Env} {e : Addr} {Z : Obj → Prop} {h h' : Heap} (x : HandSPX.FlyingZ B l e Z h) (k : ∀ b o, h.get? b = some o → h'.get? b = some o) : HandSPX.FlyingZ B l e Z h' := by
  obtain ⟨k1, k2, k3, oe, vs, T, oT, ts, he, hz, hd, h1, h2, h3, hT, hr⟩ := x
  exact ⟨fun b o q => k _ _ (k1 b o q), k2, k3.of_keeps fun b o q _ => ⟨o, k _ _ q, rfl⟩, oe, vs, T, oT, ts, k _ _ he, hz, hd, h1, h2, h3, k _ _ hT, hr⟩
section
variable {X : Cx} {x1 x2 x3 n : Str} {c1 c2 c3 : Value} {i kt : Nat} {body suite : List Stmt} {b₀ : Stmt} {p1 p2 p3 pt pos pos' : Pos} {tb : WX → TS} {ts : Addr → Value → Option Addr → TS} {Wout : WX}
theorem ps_try_tup (hs : X.stack = X.env :: X.outer) (hf : X.env.frame = some X.env.locals) (hN : X.N.Nodup) (hi : X.N[i]? = some n) (hln : X.env.kindOf n = some .local) (hc1 : Names X x1 c1) (hc2 : Names X x2 c2) (hc3 : Names X x3 c3) (tk : Takes X Wout)
    (hb : ∀ (W : WX) (pn : List (Addr × Obj)) (xe : Value → Shared → Prop), Takes (X.tr pn xe) W → PassesOwn (model X.prog X.w) X.A X.env xe → PSs (X.tr pn xe) body (tb W))
    (hsu : ∀ (a : Addr) (oe : Obj) (cls : Value) (d : Option Addr) (pn : List (Addr × Obj)), Zc cls d oe → (∃ vs, oe.data = .fields vs) → PSs (X.suite a ((a, oe) :: pn)) (b₀ :: suite) (ts a cls d)) :
    PS X (.Try body [.ExceptHandler (some (.Tuple [.Name x1 p1, .Name x2 p2, .Name x3 p3] kt pt)) (some n) (b₀ :: suite) pos'] [] [] pos) (fun D σ H => tb (wTup X.K [c1, c2, c3] i ts Wout D) D σ H) := by
  refine ⟨fun pins s σ H D I h => ?_⟩
  have ok := I.ok
  have hfr : X.A.frames = some (X.env :: X.outer) := by rw [ok.frames, hs]
  have hloc : Loc X.env.scope n := .inl hln
  refine wpAny_Try_except ?_
  refine wpAny_mono ((hb (wTup X.K [c1, c2, c3] i ts Wout D) (X.pn ++ pins) (fun e s₁ => wpAny (model X.prog X.w) X.A (noteFrame e X.env) (fun _ s₂ => wpAny (model X.prog X.w) X.A (setFlight e none) (fun _ s₃ =>
    wpAny (model X.prog X.w) X.A (handleBy e X.env [.ExceptHandler (some (.Tuple [.Name x1 p1, .Name x2 p2, .Name x3 p3] kt pt)) (some n) (b₀ :: suite) pos']) (SP X pins D) X.xe s₃) X.xe s₂) X.xe s₁) (fun u s' xx => ?_) PassesOwn.looking).run [] s σ H D (I.toTry _) h) (fun f s1 hsp => ?_) (fun e s1 he => he)
  · obtain ⟨a, B, sI, pins', σ', H', cls, d, rfl, J', nb, up, sky, na, os, ag, b, hb1, hyes, hno⟩ := xx
    have J : Inv X pins σ' H' sI := J'.ofTry ok
    have sky' : Sky B (X.env :: X.outer) a (Zc cls d) X.env.locals s'.heap := by rw [← hs]; exact sky
    show wpAny _ X.A (noteFrame (.ref a) X.env) _ _ _
    refine Sky.land Zc.steady hfr hf sky' fun h3 fl3 up3 => ?_
    have J3 : Inv X pins σ' H' { s' with heap := h3 } := J.landed nb fl3.1 (up.trans up3) os ag
    obtain ⟨oe3, vs3, he3, hz3, hd3⟩ := fl3.there
    have notFr : ∀ {h : Heap} {o : Obj} {vs : Array Value}, h.FunFrames B (X.env :: X.outer) → h.get? a = some o → o.data = .fields vs → a ∉ frs (X.env :: X.outer) := fun {h o vs} ff e dd hm => by
      obtain ⟨_, o', e', hnf⟩ := ff.mem hm
      rw [e] at e'; cases e'
      exact hnf _ dd
    have nfr := notFr fl3.2.2.1 he3 hd3
    have nL : a ≠ X.env.locals := fun z => nfr (List.mem_filterMap.mpr ⟨X.env, List.mem_cons_self, by rw [hf, z]⟩)
    have nF : a ∉ X.fs := fun hm => by
      obtain ⟨e, he, q⟩ := List.mem_filterMap.mp hm
      exact nfr (List.mem_filterMap.mpr ⟨e, List.mem_cons_of_mem _ he, q⟩)
    have S3 := J3.suite he3 hd3 na nL nF
    refine wpAny_handleBy_cons (codeAny_handlers_test ?_) (by intro q; cases q)
    -- the tuple of the classes
    have test1 : ∀ {x c p} (hc : Names X x c) {Q : Value → Shared → Prop} {E : Value → Shared → Prop}, Q c { s' with heap := h3 } → wpAny (model X.prog X.w) (X.A.mark (some (.ref a))) (eval (.Name x p) X.env) Q E { s' with heap := h3 } := fun {x c p} hc {Q E} q => by
      obtain ⟨hg, hdbg, hm | ⟨hm, hv, hnn⟩⟩ := hc
      · exact ld_glob (X := X.suite a ((a, oe3) :: (X.pn ++ pins))) S3 hg hm q hdbg
      · exact ld_blt (X := X.suite a ((a, oe3) :: (X.pn ++ pins))) S3 hg hm hv q hnn hdbg
    refine wpAny_Tuple ?_
    refine wpAny_items_cons (test1 hc1 ?_)
    refine wpAny_items_cons (test1 hc2 ?_)
    refine wpAny_items_cons (test1 hc3 ?_)
    refine wpAny_items_nil ⟨by size_fits, ?_⟩
    have kp : ∀ q o, h3.get? q = some o → (h3.push { cls := .type "tuple", data := .seq [c1, c2, c3].toArray }).get? q = some o := fun _ _ z => Heap.get?_push_of_some _ z
    have fl5 := fly_keep fl3 kp
    have J5 : Inv X pins σ' H' { s' with heap := h3.push { cls := .type "tuple", data := .seq [c1, c2, c3].toArray } } := J3.kept (t' := s'.toks) kp
    have LT : PySem.W.Looks (model X.prog X.w) (h3.push { cls := .type "tuple", data := .seq [c1, c2, c3].toArray }) (typeOf (.ref a)) cls := fun A Q E s k q => wpAny_typeOf_ref (k _ _ (kp _ _ he3)) (by rw [hz3.1]; exact q)
    refine (PySem.W.exm_tup3 (M := model X.prog X.w) J5.kIn LT (Heap.get?_push_size h3 rfl) hb1).here ?_
    cases b with
    | true =>
      refine codeAny_handlers_suite_as ?_
      refine HandSPX.lands_againZ fl5 fun h4 fl4 up4 => ?_
      have J4 : Inv X pins σ' H' { s' with heap := h4 } := J.landed nb fl4.1 (((up.trans up3).trans (Heap.UpToSlots.of_keeps kp)).trans up4) os ag
      obtain ⟨oe4, vs4, he4, hz4, hd4⟩ := fl4.there
      have S4 := J4.suite he4 hd4 na nL nF
      refine store_ok (X := X.suite a ((a, oe4) :: (X.pn ++ pins))) (v := .ref a) S4 hN hi hloc rfl (fun s5 S5 => ?_) (.inr hln)
      refine wpAny_mono ((hsu a oe4 cls d (X.pn ++ pins) hz4 ⟨_, hd4⟩).run [] s5 _ H' _ S5 (hyes rfl a na)) (fun f s6 hsp => ?_) (fun _ _ z => False.elim z)
      have end_ : ∀ {σ6 : L2.St} {H6 : Hp} {Q : Shared → Prop}, Inv (X.suite a ((a, oe4) :: (X.pn ++ pins))) [] σ6 H6 s6 → (∀ s7, Inv X pins (σ6.set i none) H6 s7 → Q s7) →
          wpAny (model X.prog X.w) X.A (do bindName X.env n .none; unbindBehindTheSuite X.env n pos') (fun _ s7 => Q s7) X.xe s6 := fun {σ6 H6 Q} S6 hq => gone_ok (S6.unsuite ok) hN hi hln hq
      cases f with
      | next =>
        obtain ⟨σ6, H6, S6, q6⟩ := hsp
        exact end_ S6 fun s7 J7 => ⟨_, _, J7, q6⟩
      | brk =>
        obtain ⟨σ6, H6, S6, q6⟩ := hsp
        exact end_ S6 fun s7 J7 => ⟨_, _, J7, q6⟩
      | cont =>
        obtain ⟨σ6, H6, S6, q6⟩ := hsp
        exact end_ S6 fun s7 J7 => ⟨_, _, J7, q6⟩
      | ret u =>
        obtain ⟨v6, σ6, H6, S6, r6, q6⟩ := hsp
        exact end_ S6 fun s7 J7 => ⟨_, _, _, J7, r6, q6⟩
    | false =>
      show wpAny _ X.A (handleBy (.ref a) X.env []) _ _ _
      refine wpAny_handleBy_nil ?_
      obtain ⟨k1, k2, k3, oe, vs, T, oT, ts', he, hz, hd, h1, hr⟩ := id fl5
      unfold PySem.passOn
      refine wpAny_bind (wpAny_field he hd h1 ?_)
      rw [if_neg (show ¬ ((Value.ref T == Value.none) = true) from by simp)]
      have fin : wpAny (model X.prog X.w) X.A (setFlight (.ref a) X.env.frame) (fun _ s4 => wpAny (model X.prog X.w) X.A (throw (.ref a) : Sem Flow) (SP X pins D) X.xe s4) X.xe { s' with heap := h3.push { cls := .type "tuple", data := .seq [c1, c2, c3].toArray } } := by
        rw [hf]
        refine HandSPX.setFlight_upZ fl5 fun h4 hh4 up4 => wpAny_throw (tk _ _ ?_)
        exact ⟨a, B, sI, pins, σ', H', cls, d, rfl, J, nb, ((up.trans up3).trans (Heap.UpToSlots.of_keeps kp)).trans up4, .inr (.inr (by rw [hs]; exact hh4)), na, os, ag, hno rfl⟩
      first
        | exact wpAny_bind (wpAny_pure (wpAny_bind fin))
        | exact wpAny_bind fin
  · cases f with
    | next =>
      obtain ⟨σ', H', J', q⟩ := hsp
      exact wpAny_execs_nil ⟨σ', H', J'.ofTry ok, q⟩
    | brk =>
      obtain ⟨σ', H', J', q⟩ := hsp
      exact ⟨σ', H', J'.ofTry ok, q⟩
    | cont =>
      obtain ⟨σ', H', J', q⟩ := hsp
      exact ⟨σ', H', J'.ofTry ok, q⟩
    | ret u =>
      obtain ⟨v, σ', H', J', r, q⟩ := hsp
      exact ⟨v, σ', H', J'.ofTry ok, r, q⟩
end
end L3X
/-! ### 64. Lambdas: made -/
namespace L3X
open PySem PySem.Spec PyProof.Rows L2 L3
section
variable {X : Cx} {pins : List (Addr × Obj)} {σ : L2.St} {H : Hp} {s : Shared} {c P : Addr} {params : Arguments} {body : Expr} {scope : Scope} {pos : Pos} {E : Value → Shared → Prop} {Q : Value → Shared → Prop} {ps : Array Value} {nm : List Str}
theorem lobj_ok {Pg : Program} {w : World} {H : Hp} {h : Heap} {L : Lam} {doc pm dV ctv : Value} {c' f : Addr} (he : h.get? f = some (PySem.W.kdv_obj "<lambda>" L.q L.params (.expr L.body) L.scope L.clo dV doc pm c' ctv)) : ObjOk Pg w H h f (L.obj doc pm dV ctv c' f) :=
  ⟨he, ⟨_, he⟩, fun _ _ z k => k _ z⟩
theorem tupO_ok {Pg : Program} {w : World} {H : Hp} {h : Heap} {dvs : List Value} {t : Addr} (he : h.get? t = some (PySem.W.kdv_tup dvs)) : ObjOk Pg w H h t (tupO dvs t) := ⟨he, ⟨_, he⟩, fun _ _ z k => k _ z⟩
/-- the function object made: its code object is new, or stands in the table -/
theorem lam_tail {dV : Value} (L : Lam) (hL : L = ⟨X.env.qual ++ "<lambda>", params, nm, body, scope, cloFrom X.env.cells scope.names []⟩) (I : Inv X pins σ H s) (TB : LamX.TabB X.base X.mg c P) (hcode : X.env.code = .ref c) (hP : H P = some (.tbl ps)) (ht : TriplesOk ps.toList)
    (ha : ∀ (pos : Pos) (cv : Value), codeAmong pos ps.toList = some cv → ∃ c', cv = .ref c' ∧ H c' = some (LamX.CodeO c' L.q)) (hfree : ∀ y ∈ scope.names, y.2 = .free → ∃ c, X.env.cells.lookup y.1 = some c)
    (h : ∀ (f c' : Addr) (doc pm ctv : Value) (s' : Shared) (H1 : Hp), H f = none → f ≠ c' → H1 c' = some (LamX.CodeO c' L.q) → H1 f = none → Inv X pins σ (upd H1 f (L.obj doc pm dV ctv c' f)) s' →
      ((H1 = H ∧ ∃ p', codeAmong p' ps.toList = some (.ref c')) ∨ (H c' = none ∧ c' ≠ P ∧ f ≠ P ∧ ∃ ps' : Array Value, H1 = upd (upd H c' (LamX.CodeO c' L.q)) P (.tbl ps') ∧ TriplesOk ps'.toList ∧ ∀ (pos : Pos) (cv : Value), codeAmong pos ps'.toList = some cv → codeAmong pos ps.toList = some cv ∨ cv = .ref c')) → Q (.ref f) s') :
    wpAny (model X.prog X.w) X.A (makeTail "<lambda>" (X.env.qual ++ "<lambda>") params (.expr body) scope X.env dV .none none pos pos.line) Q E s := by
  subst hL
  have bP : s.heap.BuiltinsAt X.mg P := TB.bm.keeps I.bk
  have hP' : s.heap.get? P = some { cls := .none, data := .fields ps } := I.hok P _ hP
  cases hc : codeAmong pos ps.toList with
  | none =>
    refine PySem.W.kdv_makeTail (mg := X.mg) (c := c) (P := P) (ps := ps) (closure_ok hfree) I.ok.glob (I.mod.glob.keeps I.bk) hcode (TB.code.keeps I.bk) hP' ht hc TB.gP bP fun c' ctv doc h' tk hx hge hlt hrec htb => ?_
    obtain ⟨c2, oc, vs, t, e2, hoc, hd, hv⟩ := hrec
    cases e2
    have nC : H c' = none := I.hok.fresh hge
    have nPc : P ≠ c' := ne_of_none hP nC
    have I1 := LamX.inv_table (q := X.env.qual ++ "<lambda>") (t' := tk) (more := #[rawInt pos.line, rawInt pos.col, .ref c']) (h' := h') I hP (fun b o hb e => hx b o hb e) htb hge ⟨oc, vs, t, hoc, hd, hv⟩
    have ecom : upd (upd H P (.tbl (ps ++ #[rawInt pos.line, rawInt pos.col, .ref c']))) c' (LamX.CodeO c' (X.env.qual ++ "<lambda>")) = upd (upd H c' (LamX.CodeO c' (X.env.qual ++ "<lambda>"))) P (.tbl (ps ++ #[rawInt pos.line, rawInt pos.col, .ref c'])) := by
      funext b
      by_cases z1 : b = P
      · subst z1; rw [upd_ne nPc, upd_same, upd_same]
      · by_cases z2 : b = c'
        · subst z2; rw [upd_same, upd_ne z1, upd_same]
        · rw [upd_ne z2, upd_ne z1, upd_ne z1, upd_ne z2]
    rw [ecom] at I1
    have nf : H h'.objs.size = none := I.hok.fresh (Nat.le_trans hge (Nat.le_of_lt hlt))
    have nfc : h'.objs.size ≠ c' := Nat.ne_of_gt hlt
    have nfP : h'.objs.size ≠ P := fun z => by rw [z, hP] at nf; cases nf
    have eL : (ps ++ #[rawInt pos.line, rawInt pos.col, .ref c']).toList = ps.toList ++ [rawInt pos.line, rawInt pos.col, .ref c'] := by simp
    refine h h'.objs.size c' doc _ ctv _ _ nf nfc (by rw [upd_ne (Ne.symm nPc), upd_same]) (by rw [upd_ne nfP, upd_ne nfc]; exact nf) (I1.laid (t' := tk) (h' := h'.push _) (fun b o e => Heap.get?_push_of_some _ e) (Nat.le_refl _) (lobj_ok (Heap.get?_push_size _ rfl)))
      (.inr ⟨nC, Ne.symm nPc, nfP, _, rfl, by rw [eL]; exact PySem.TriplesOk_snoc _ _ _ _ ht, fun pos cv hcv => ?_⟩)
    rw [eL] at hcv
    exact LamX.among_app _ ht hcv
  | some cv =>
    obtain ⟨c', e, hco⟩ := ha pos cv hc
    subst e
    refine PySem.W.kdv_makeTailHit (mg := X.mg) (c := c) (P := P) (ps := ps) (closure_ok hfree) I.ok.glob (I.mod.glob.keeps I.bk) hcode (TB.code.keeps I.bk) hP' ht hc bP fun ctv doc h' tk hx hsz => ?_
    have I1 : Inv X pins σ H { s with heap := h', toks := tk } := I.kept hx
    have nf : H h'.objs.size = none := I.hok.fresh hsz
    exact h h'.objs.size c' doc _ ctv _ H nf (fun z => by rw [z, hco] at nf; cases nf) hco nf (I1.laid (t' := tk) (h' := h'.push _) (fun b o e => Heap.get?_push_of_some _ e) (Nat.le_refl _) (lobj_ok (Heap.get?_push_size _ rfl))) (.inl ⟨rfl, pos, hc⟩)
end
/-- X's def may make lambdas: its code object's table stands at P -/
def CodeTab (X : Cx) (P : Addr) : Prop := ∃ c, LamX.TabB X.base X.mg c P ∧ X.env.code = .ref c
end L3X
namespace L3
open PySem PySem.Spec PyProof.Rows L2 L3X
section
variable {X : Cx} {w : Wi} {Γ : Ga} {M : Mm} {Q : D → Mm → Prop} {Po' : Po} {e0 : Expr} {pos : Pos} {params : Arguments} {body : Expr} {scope : Scope} {P : Addr} {nm : List Str} {F Hb H H0 : Hp} {σ : L2.St}
/-- the D-reading of a function object made -/
theorem lam_at {L : Lam} {ps : Array Value} {f c' : Addr} {doc pm dV ctv : Value} {dvs : List Value} {H1 : Hp} (A : At X w F Hb H σ Γ M) (e0 : Ex H0 Hb) (hM : M P = some (.tb L.q)) (hP : H P = some (.tbl ps)) (hps : ∀ (pos : Pos) (cv : Value), codeAmong pos ps.toList = some cv → ∃ c, cv = .ref c ∧ Hb c = some (LamX.CodeO c L.q))
    (hl : dvs.length = L.nm.length) (hd : (dV = .none ∧ dvs = []) ∨ ∃ t, dV = .ref t ∧ Hb t = some (tupO dvs t))
    (nf : H f = none) (nfc : f ≠ c') (hc : H1 c' = some (LamX.CodeO c' L.q)) (nf1 : H1 f = none)
    (hH : (H1 = H ∧ ∃ p', codeAmong p' ps.toList = some (.ref c')) ∨ (H c' = none ∧ c' ≠ P ∧ f ≠ P ∧ ∃ ps' : Array Value, H1 = upd (upd H c' (LamX.CodeO c' L.q)) P (.tbl ps') ∧ TriplesOk ps'.toList ∧ ∀ (pos : Pos) (cv : Value), codeAmong pos ps'.toList = some cv → codeAmong pos ps.toList = some cv ∨ cv = .ref c')) (q : Q (.fn L) M) :
    PostE X w F H0 σ Γ Q (.ref f) (upd H1 f (L.obj doc pm dV ctv c' f)) := by
  have one : ∃ Hb1, Ex Hb Hb1 ∧ At X w F Hb1 H1 σ Γ M ∧ Hb1 c' = some (LamX.CodeO c' L.q) := by
    rcases hH with ⟨rfl, p', hp'⟩ | ⟨n1, n2, n3, ps', rfl, t1, t2⟩
    · obtain ⟨c2, e2, e3⟩ := hps _ _ hp'
      cases e2
      exact ⟨Hb, Ex.refl _, A, e3⟩
    · obtain ⟨ex1, A1⟩ := A.new n1 (LamX.CodeO c' L.q)
      have A2 := A1.write (c := .tb L.q) hM (o := .tbl ps') ⟨ps', upd_same, t1, fun pos cv hcv => by
        rcases t2 pos cv hcv with z | z
        · obtain ⟨c2, e2, e3⟩ := hps _ _ z
          exact ⟨c2, e2, ex1 _ _ e3⟩
        · exact ⟨c', z, upd_same⟩⟩
      rw [Mm.put_id hM] at A2
      exact ⟨_, ex1, A2, upd_same⟩
  obtain ⟨Hb1, ex1, A1, hc1⟩ := one
  obtain ⟨ex2, A2⟩ := A1.new nf1 (L.obj doc pm dV ctv c' f)
  exact ⟨_, .fn L, M, e0.trans (ex1.trans ex2), A2, .fn ⟨doc, pm, dV, ctv, c', dvs, upd_same, ex2 _ _ hc1, hl, hd.imp id fun ⟨t, h1, h2⟩ => ⟨t, h1, ex2 _ _ (ex1 _ _ h2)⟩⟩, q⟩
theorem free_has {pins : List (Addr × Obj)} {s : Shared} (I : L2.Inv X pins σ H s) (hfree : ∀ y ∈ scope.names, y.2 = .free → X.env.scope.names.lookup y.1 = some .cell ∨ X.env.scope.names.lookup y.1 = some .free) : ∀ y ∈ scope.names, y.2 = .free → ∃ c, X.env.cells.lookup y.1 = some c := fun y hy e =>
  (hfree y hy e).elim (fun z => I.ok.has _ (.inl z)) fun z => I.ok.has _ (.inr z)
/-- lambda: body -/
theorem de_lam0 (T : CodeTab X P) (hdf : params.defaults = []) (hkd : params.kw_defaults = []) (hfree : ∀ y ∈ scope.names, y.2 = .free → X.env.scope.names.lookup y.1 = some .cell ∨ X.env.scope.names.lookup y.1 = some .free)
    (hM : M P = some (.tb (X.env.qual ++ "<lambda>"))) (q : Q (.fn ⟨X.env.qual ++ "<lambda>", params, [], body, scope, cloFrom X.env.cells scope.names []⟩) M) : DE X w (.Lambda params body scope pos) Γ M Q := .mk fun F σ H Hb A pins s I => by
  obtain ⟨c, TB, hcode⟩ := T
  obtain ⟨hb0, ps, hP, ht, ha⟩ := A.hs.ce _ _ hM
  refine PySem.W.kla_eval (by rw [defaultsOf_eq, hdf, hkd]; rfl) ?_
  rw [makeFunction_eq]
  simp only [List.zip_nil_right, List.filterMap_nil, List.isEmpty_nil, if_true, pure_bind]
  refine lam_tail ⟨X.env.qual ++ "<lambda>", params, [], body, scope, cloFrom X.env.cells scope.names []⟩ rfl I TB hcode hP ht (fun pos cv z => (ha pos cv z).imp fun c y => ⟨y.1, A.hs.ex _ _ y.2⟩) (free_has I hfree) fun f c' doc pm ctv s' H1 nf nfc hc nf1 I1 hH => ?_
  exact ⟨.ref f, _, I1, rfl, lam_at A (Ex.refl _) hM hP ha rfl (.inl ⟨rfl, rfl⟩) nf nfc hc nf1 hH q⟩
/-- lambda x=e0: body -/
theorem de_lam1 {x : Str} (T : CodeTab X P) (hdf : params.defaults = [e0]) (hkd : params.kw_defaults = []) (hfree : ∀ y ∈ scope.names, y.2 = .free → X.env.scope.names.lookup y.1 = some .cell ∨ X.env.scope.names.lookup y.1 = some .free)
    (h : DE X w e0 Γ M fun _ M1 => M1 P = some (.tb (X.env.qual ++ "<lambda>")) ∧ Q (.fn ⟨X.env.qual ++ "<lambda>", params, [x], body, scope, cloFrom X.env.cells scope.names []⟩) M1) : DE X w (.Lambda params body scope pos) Γ M Q := .mk fun F σ H Hb A pins s I => by
  obtain ⟨c, TB, hcode⟩ := T
  refine PySem.W.kdv_lam (by rw [hdf]; rfl) hkd ?_
  rw [hdf]
  refine PySem.W.kdv_all1 (thn ((h.run F σ H Hb A) pins s I) fun u s1 ⟨v, H1, I1, rv, Hb1, d, M1, e1, A1, r1, hM, q⟩ => PySem.W.kdv_all0 ?_)
  rw [makeFunction_eq]
  simp only [List.zip_nil_right, List.filterMap_nil, List.isEmpty_nil, if_true, pure_bind, List.isEmpty_cons, Bool.false_eq_true, if_false]
  refine wpAny_bind (wpAny_newTextTuple ?_)
  have nt : H1 s1.heap.objs.size = none := I1.hok.fresh (Nat.le_refl _)
  have I2 := I1.laid (a := s1.heap.objs.size) (o := tupO [u] s1.heap.objs.size) (t' := s1.toks) (h' := s1.heap.push (PySem.W.kdv_tup [u])) (fun b o e => Heap.get?_push_of_some _ e) (Nat.le_refl _) (tupO_ok (Heap.get?_push_size _ rfl))
  obtain ⟨ex2, A2⟩ := A1.new nt (tupO [u] s1.heap.objs.size)
  obtain ⟨hb0, ps, hP, ht, ha⟩ := A2.hs.ce _ _ hM
  refine lam_tail ⟨X.env.qual ++ "<lambda>", params, [x], body, scope, cloFrom X.env.cells scope.names []⟩ rfl I2 TB hcode hP ht (fun pos cv z => (ha pos cv z).imp fun c y => ⟨y.1, A2.hs.ex _ _ y.2⟩) (free_has I2 hfree) fun f c' doc pm ctv s' H3 nf nfc hc nf1 I3 hH => ?_
  exact ⟨.ref f, _, I3, rfl, lam_at A2 (e1.trans ex2) hM hP ha rfl (.inr ⟨_, rfl, upd_same⟩) nf nfc hc nf1 hH q⟩
end
end L3
/-! ### 65. Lambdas: called within a def that got one -/
namespace L3X
open PySem PySem.Spec PyProof.Rows L2 L3
/-- the names of a lambda: its parameters (that are no names of the def around), captured ones, globals -/
structure LamN (N nm : List Str) (sc scope : Scope) : Prop where
  kind : scope.kind = .function
  co : scope.isCoroutine = false
  gen : scope.isGenerator = false
  par : ∀ x ∈ nm, scope.names.lookup x = some .local
  nocell : ∀ y ∈ scope.names, y.2 ≠ .cell
  apart : ∀ y ∈ scope.names, y.2 = .local → y.1 ∉ N
  free : ∀ y ∈ scope.names, y.2 = .free → sc.names.lookup y.1 = some .cell ∨ sc.names.lookup y.1 = some .free
def lamNB (N nm : List Str) (sc scope : Scope) : Bool :=
  decide (scope.kind = .function) && (!scope.isCoroutine && (!scope.isGenerator && (nm.all (fun x => decide (scope.names.lookup x = some .local)) && (scope.names.all (fun y => !decide (y.2 = .cell)) && (scope.names.all (fun y => !decide (y.2 = .local) || !N.contains y.1) &&
    scope.names.all (fun y => !decide (y.2 = .free) || (decide (sc.names.lookup y.1 = some .cell) || decide (sc.names.lookup y.1 = some .free))))))))
theorem lamN_by {N nm : List Str} {sc scope : Scope} (h : lamNB N nm sc scope = true) : LamN N nm sc scope := by
  unfold lamNB at h
  simp only [Bool.and_eq_true, Bool.or_eq_true, Bool.not_eq_true', decide_eq_true_eq, decide_eq_false_iff_not, List.all_eq_true] at h
  obtain ⟨h1, h2, h3, h4, h5, h6, h7⟩ := h
  refine ⟨h1, h2, h3, h4, h5, fun y hy e => (h6 y hy).elim (fun z => absurd e z) fun z q => ?_, fun y hy e => (h7 y hy).elim (fun z => absurd e z) id⟩
  rw [List.contains_iff_mem.mpr q] at z
  cases z
abbrev envL (L : Lam) (loc f c' : Addr) : Env := PySem.W.envX L.q L.scope loc f (.ref c') L.clo
/-- the context of the lambda's body, entered at s from the frames outer -/
def cxL (X : Cx) (A : Around) (outer : List Env) (s : Shared) (H : Hp) (E : XK) (L : Lam) (f c' : Addr) : Cx where
  prog := X.prog
  w := X.w
  K := X.K
  mg := X.mg
  base := X.base
  A := A.deeper (envL L s.heap.objs.size f c')
  N := X.N
  s_0 := s
  H_0 := H
  env := envL L s.heap.objs.size f c'
  outer := outer
  stack := envL L s.heap.objs.size f c' :: outer
  ex := []
  fn := fun _ => false
  calm := true
  pn := []
  xe := fun e s' => wpAny (model X.prog X.w) (A.deeper (envL L s.heap.objs.size f c')) (leaving (envL L s.heap.objs.size f c') e) (fun _ s'' => L2.CX X.prog X.w outer H s E e s'') (fun e' s'' => L2.CX X.prog X.w outer H s E e' s'') s'
/-- called without arguments, each parameter is its default -/
def BindsL (L : Lam) : Prop := ∀ (doc pm dV cdv ctv : Value) (dvs : List Value) (s : Shared), dvs.length = L.nm.length → ((dV = .none ∧ dvs = []) ∨ ∃ t, dV = .ref t ∧ s.heap.get? t = some (PySem.W.kdv_tup dvs)) →
  BindsTo s (PySem.W.kdv_fn "<lambda>" L.q L.params (.expr L.body) L.scope L.clo dV doc pm cdv ctv) ⟨[], []⟩ (L.nm.zip dvs)
section
variable {X : Cx} {pins : List (Addr × Obj)} {σ : L2.St} {H HZ : Hp} {s s1 : Shared} {L : Lam}
theorem inv_L {A : Around} {outer : List Env} {E : XK} {f c' : Addr} {h₁ : Heap} {tk : Nat} {binds : List (Str × Value)} (I : Inv X pins σ H s) (N : LamN X.N L.nm X.env.scope L.scope) (hclo : L.clo = cloFrom X.env.cells L.scope.names []) (e0 : Env0 X.prog X.w X.K X.mg X.base A outer s1 HZ) (hd : A.handled = none)
    (un : ∀ (x : Str) (c : Addr) (v : Option Value), X.env.cells.lookup x = some c → s.heap.IsCell c v → s1.heap.IsCell c v ∧ HZ c = none) (hns : h₁.Ns s1.heap.objs.size fun y => binds.reverse.lookup y) (kp : ∀ b o, s1.heap.get? b = some o → h₁.get? b = some o) :
    Inv (cxL X A outer s1 HZ E L f c') [] σ HZ { s1 with heap := h₁, toks := tk } := by
  have hfree : ∀ y ∈ L.scope.names, y.2 = .free → ∃ c, X.env.cells.lookup y.1 = some c := fun y hy e => (N.free y hy e).elim (fun z => I.ok.has _ (.inl z)) fun z => I.ok.has _ (.inr z)
  have cm : ∀ {y c}, L.clo.lookup y = some c → X.env.cells.lookup y = some c := fun {y c} e => by
    rw [hclo] at e
    rcases cloFrom_mem (PySem.mem_of_lookup e) with hm | ⟨h1, h2⟩
    · cases hm
    · obtain ⟨c1, hc⟩ := hfree _ h1 rfl
      have hc : X.env.cells.lookup y = some c1 := hc
      have e2 : c = c1 := by
        rw [h2, hc] <;> rfl
      rw [e2]
      exact hc
  have look : ∀ {y}, L.scope.names.lookup y = some .free → ∃ c, L.clo.lookup y = some c := fun {y} hl => by
    have hy : (y, NameKind.free) ∈ L.scope.names := PySem.mem_of_lookup hl
    rw [hclo]
    exact mem_lookup (cloFrom_has (cells := X.env.cells) (acc := []) hy)
  have cellK : ∀ {x : Str} {c : Addr} {v : Option Value}, X.env.cells.lookup x = some c → s.heap.IsCell c v → h₁.IsCell c v := fun {x c v} n z => by
    obtain ⟨o, ho, hd⟩ := (un x c v n z).1
    exact ⟨_, kp _ _ ho, hd⟩
  have noA : ∀ b : Addr, b ∉ (cxL X A outer s1 HZ E L f c').ex := fun b z => absurd (show b ∈ ([] : List Addr) from z) (by simp)
  refine ⟨⟨e0.mod, N.kind, rfl, rfl, Nat.le_refl _, fun y z c e1 e2 => I.ok.inj y z c (cm e1) (cm e2), fun y hy => ?_, fun y c z _ => ?_, fun _ => hd, Around.frames_deeper e0.frames, .inr ⟨rfl, rfl⟩, fun b z => absurd z (noA b), e0.bs, e0.bsz, fun b _ _ => noA b,
      fun b z => absurd z (noA b), e0.funs, e0.frf⟩,
    rfl, e0.bare, Un.kept kp, ⟨_, hns, fun i y v e1 e2 e3 => ?_⟩, fun y c e => ?_, e0.hok.fresh (Nat.le_refl _), fun y c e => ?_, fun q hq => absurd (show q ∈ ([] : List (Addr × Obj)) ++ [] from hq) (by simp), e0.hok.kept kp, I.len⟩
  · have hy : L.scope.names.lookup y = some .cell ∨ L.scope.names.lookup y = some .free := hy
    rcases hy with hy | hy
    · exact absurd rfl (N.nocell _ (PySem.mem_of_lookup hy))
    · exact look hy
  · have z : false = true := z
    cases z
  · have e3 : Vis L.scope y := e3
    rcases e3 with k | k | k
    · exact absurd (List.mem_of_getElem? e1) (N.apart _ (PySem.mem_of_lookup k) rfl)
    · exact absurd rfl (N.nocell _ (PySem.mem_of_lookup k))
    · obtain ⟨m, hn, hl⟩ := I.loc
      have hvis : Vis X.env.scope y := (N.free _ (PySem.mem_of_lookup k) rfl).elim (fun k => .inr (.inl k)) (fun k => .inr (.inr k))
      obtain ⟨w', r, q⟩ := hl i y v e1 e2 hvis
      obtain ⟨c2, h2⟩ := look k
      refine ⟨w', r, .inr ⟨.inr k, c2, h2, ?_⟩⟩
      have c1 := cm h2
      rcases q with ⟨k', _⟩ | ⟨_, c3, e', z⟩
      · have k' : X.env.scope.names.lookup y = some .local := k'
        rcases N.free _ (PySem.mem_of_lookup k) rfl with k2 | k2 <;> rw [show X.env.scope.names.lookup y = _ from k2] at k' <;> cases k'
      · rw [c1] at e'
        cases e'
        exact cellK c1 z
  · obtain ⟨w', z⟩ := I.cell y c (cm e)
    exact ⟨w', cellK (cm e) z⟩
  · obtain ⟨v, z⟩ := I.cell y c (cm e)
    exact (un y c v (cm e) z).2
end
end L3X
/-! ### 66. A def called in an except suite that raises nothing; the caught error's fields -/
namespace L3X
open PySem PySem.Spec PyProof.Rows L2
abbrev XP := Addr × Obj
/-- what a def promises where the exception p is handled -/
structure FnQ (P : Program) (w : World) (K : PySem.W.Frag) (mg : Str → Option Value) (base : Heap) (CX : CXT) (k : Nat) (f : Addr) (fd : FuncData) (ps : List Str) (sp : XP → List V → Hp → VK → Prop) : Prop where
  len : ∀ p vs H Q, sp p vs H Q → vs.length = ps.length
  run : ∀ (A : Around) (outer : List Env) (s : Shared) (H : Hp) (args : Args) (us : List Value) (vs : List V) (Q : VK) (E : XK) (p : XP), L2H.RoomH k A → L2H.PinOk outer H s p → Env0 P w K mg base A outer s H → BindsTo s fd args (ps.zip us) → Vals vs us → sp p vs H Q →
    codeAny (model P w) A (.call (.ref f) args) (CR CX outer P w H s Q E) s
theorem fnQ_of {CX : CXT} {P : Program} {w : World} {K : PySem.W.Frag} {mg : Str → Option Value} {base : Heap} {k : Nat} {f : Addr} {name qual : Str} {params : Arguments} {body : List Stmt} {scope : Scope} {dV kV doc pm cdv ct oc : Value} {an od : Option Addr}
    {osl : Array (Option Value)} {N ps : List Str} {sp : XP → List V → Hp → VK → Prop} (lk : K.lookup f = some ⟨oc, od, .func (PySem.W.fnOf name qual params body scope dV kV doc pm an cdv ct), osl⟩) (hcd : PySem.W.codeIn K cdv qual = true) (S : FnScope N ps scope)
    (len : ∀ p vs H Q, sp p vs H Q → vs.length = ps.length)
    (hbody : ∀ (A : Around) (outer : List Env) (s : Shared) (H : Hp) (vs : List V) (Q : VK) (E : XK) (p : XP), L2H.RoomH k (A.deeper (envOfC qual scope s.heap.objs.size f cdv)) → sp p vs H Q →
      ∃ t, PSs (L2H.cxH CX P w K mg base N qual scope f cdv A outer s H E p) body t ∧ t { nx := fun _ H' => Q .non H', rt := Q } (L2.start N vs) H) :
    FnQ P w K mg base CX (k + 1) f (PySem.W.fnOf name qual params body scope dV kV doc pm an cdv ct) ps sp := by
  refine ⟨len, fun A outer s H args us vs Q E p hr hpin e0 hb r hsp => ?_⟩
  have hl := len _ _ _ _ hsp
  have KX : K.In s.heap := e0.mod.kin.keeps fun b o e => (e0.bs b o e).1
  have lim : s.heap.NoLimit := e0.mod.nolimit.keeps fun b o e => (e0.bs b o e).1
  have hkind : ∀ y ∈ ps.zip us, scope.names.lookup y.1 = some .local ∨ (scope.names.lookup y.1 = some .cell ∧ ((cellsFrom (s.heap.objs.size + 1) scope.names []).lookup y.1).isSome = true) := fun ⟨n, v⟩ hy => by
    rcases S.par n (List.of_mem_zip hy).1 with q | q
    · exact .inl q
    · exact .inr ⟨q, PySem.W.cellsFrom_some _ _ _ (.inl q)⟩
  refine codeAny_call_function hr.depth (KX _ _ lk) rfl S.co S.gen rfl (PySem.W.codeRec_of KX hcd) (hb _ _ _ _ ?_)
  refine wpAny_newFunctionEnv_cells S.kind hkind fun env he s1 x => ?_
  subst he
  refine ⟨lim.keeps x.toInCall.keep, codeAny_func ?_⟩
  obtain ⟨t, ht, hq⟩ := hbody A outer s H vs Q E p (hr.deeper _) hsp
  have I : Inv (L2H.cxH CX P w K mg base N qual scope f cdv A outer s H E p) [] (L2.start N vs) H s1 := L2H.inv_startH S hpin e0 hl r x
  refine wpAny_mono (ht.run [] s1 (L2.start N vs) H _ I hq) (fun fl s' hs => ?_) fun e s' hs => hs
  have fin : ∀ {σ' : L2.St} {H' : Hp} {v : V} {u : Value}, Inv (L2H.cxH CX P w K mg base N qual scope f cdv A outer s H E p) [] σ' H' s' → RelV v u → Q v H' → CE outer P w H s Q u s' :=
    fun {σ' H' v u} J rv q => ⟨v, H', J.os, J.bare, J.base, J.hok, rv, q⟩
  cases fl with
  | ret u =>
    obtain ⟨v, σ', H', J, rv, q⟩ := hs
    exact fin J rv q
  | next =>
    obtain ⟨σ', H', J, q⟩ := hs
    exact fin (v := V.non) (u := Value.none) J rfl q
  | brk =>
    obtain ⟨_, _, _, q⟩ := hs
    exact False.elim q
  | cont =>
    obtain ⟨_, _, _, q⟩ := hs
    exact False.elim q
section
variable {X : Cx} {CX : CXT} {k : Nat} {f C : Addr} {fd : FuncData} {ps : List Str} {sp : XP → List V → Hp → VK → Prop} {x m : Str} {q pos apos : Pos} {e o : Expr} {es : List Expr} {ta : TE} {t : TA} {p : XP}
theorem pe_callQ (F : FnQ X.prog X.w X.K X.mg X.base CX k f fd ps sp) (hr : L2H.RoomH k X.A) (hp : p ∈ X.pn) (hg : Gl X x) (hm : X.mg x = some (.ref f)) (hk : PySem.W.keepIn X.K (.ref f) = true) (hb : Binds X.K fd ps []) (hx : ∀ σ, PassesAt CX X σ (fun _ _ _ => False))
    (ha : PA X (e :: es) t) (hdb : (x == ("__debug__" : Str)) = false) (he : starEach (e :: es) X.env = (false, eval e X.env) :: starEach es X.env := by rfl) (hpl : (backTo pos (starEach es X.env)).any (·.1) = false := by rfl) :
    PE X (.Call (.Name x q) (e :: es) [] pos) (fun σ H Q => t σ H fun vs H1 => sp p vs H1 Q) := by
  refine ⟨fun pins s σ H Q I h => ?_⟩
  refine wpAny_Call_Name_kw (ld_glob I hg hm ?_ hdb)
  refine PySem.W.callWith_K (h₀ := X.base) I.ok.mod.kin hk (thn (ha.run pos pins s σ H _ I h) fun us s1 ⟨vs, H1, I1, r, q⟩ => ⟨I1.kIn, ?_⟩) he hpl
  have hl : us.length = ps.length := by rw [← r.length]; exact F.len _ _ _ _ q
  have b := hb s1 us I1.kIn (by rw [List.append_nil]; exact hl)
  rw [List.append_nil] at b
  have P1 := I1.pin p (List.mem_append_left _ hp)
  have hpin : L2H.PinOk X.stack H1 s1 p := ⟨P1.1, P1.2.1, fun hm => (List.mem_cons.mp (I1.stkSub p.1 hm)).elim P1.2.2.1 P1.2.2.2.1, P1.2.2.2.2⟩
  refine wpAny_call (codeAny_mono (F.run X.A X.stack s1 H1 ⟨us, []⟩ us vs Q (fun _ _ _ => False) p hr hpin I1.env0 b r q) fun r s' hq => ?_)
  cases r with
  | error e => exact hx σ pins H1 s1 e s' I1 hq
  | ok fl =>
    cases fl with
    | ret u => exact I1.after hq
    | next => exact False.elim hq
    | brk => exact False.elim hq
    | cont => exact False.elim hq
/-- a field of the caught error -/
theorem pe_xfQ {a C : Addr} {oe : Obj} {d : Option Addr} {te : TE} {n : Str} (hp : (a, oe) ∈ X.pn) (T : XfC X.K C) (hno : PySem.W.findIn X.K (.ref C) n = some none) (hz : Zc (.ref C) d oe) (hf : ∃ vs, oe.data = .fields vs) (he : PE X e te) (hb : attributeBase e n X.env (eval e X.env) = eval e X.env) :
    PE X (.Attribute e n pos) (fun σ H Q => te σ H fun x H1 => x = .ref a ∧ ∃ (dd : Addr) (fs : List (Str × V)) (v : V), d = some dd ∧ H1 dd = some (.xd fs) ∧ fs.lookup n = some v ∧ Q v H1) := by
  refine ⟨fun pins s σ H Q I h => ?_⟩
  refine attr_of hb (thn (he.run pins s σ H _ I h) fun u s1 hh => ?_)
  obtain ⟨x, H1, I1, rx, ex, dd, fs, v, ed, ea, l, q⟩ := hh
  subst ex
  obtain rfl : u = Value.ref a := rx
  subst ed
  obtain ⟨ha, _⟩ := I1.pin (a, oe) (List.mem_append_left _ hp)
  obtain ⟨vs, hd⟩ := hf
  have hx : ObjOk X.prog X.w H1 s1.heap dd (.xd fs) := I1.hok dd _ ea
  obtain ⟨mA, hns, hr⟩ := hx
  obtain ⟨od, ho, hl⟩ := lookIn_ns hns
  obtain ⟨u, hu, ru⟩ := RelO.some_of (v := v) (o := mA n) (by rw [← l]; exact hr n)
  have J : PySem.W.InstAt s1.heap a oe C (some od) := ⟨ha, hz.1, by unfold PySem.W.notCls; rw [hd] <;> rfl, by rw [hz.2]; exact ho⟩
  exact HandSPX.exc_get I1.kIn J T.ga T.gg T.exC (PySem.W.findObj_own T.hdC hno rfl (by rw [hl, hu])) (handed_of ru) ⟨v, H1, I1.tok _, ru, q⟩
end
end L3X
namespace L3
open PySem PySem.Spec PyProof.Rows L2 L3X
section
variable {X : Cx} {w : Wi} {Γ : Ga} {M : Mm} {Q : D → Mm → Prop} {e : Expr} {pos : Pos}
/-- the caught error, pinned: its class, its fields -/
structure XAt (X : Cx) (w : Wi) (c : Str) (a : Addr) (fs : List (Str × D)) : Prop where
  ex : ∃ (oe : Obj) (dd : Addr) (ws : List (Str × V)), (a, oe) ∈ X.pn ∧ Zc (.ref (ca X.mg c)) (some dd) oe ∧ (∃ vs, oe.data = .fields vs) ∧ (w.h0 dd = some (.xd ws) ∨ w.f0 dd = some (.xd ws)) ∧ RepF X.K X.mg w.h0 ws fs
/-- what a class must have for its errors' fields to be read -/
structure XfD (K : PySem.W.Frag) (mg : Str → Option Value) (c : Str) (ns : List Str) : Prop where
  xf : XfC K (ca mg c)
  nf : ∀ n ∈ ns, PySem.W.findIn K (.ref (ca mg c)) n = some none
theorem repF_look {K : PySem.W.Frag} {mg : Str → Option Value} {Hb : Hp} {n : Str} {d : D} : ∀ {ws : List (Str × V)} {fs : List (Str × D)}, RepF K mg Hb ws fs → fs.lookup n = some d → ∃ v, ws.lookup n = some v ∧ Rep K mg Hb v d
  | _, _, .nil, h => by cases h
  | _, _, .cons (f := f) (v := v) (d := d') r1 r2, h => by
    rw [List.lookup_cons] at h
    rw [List.lookup_cons]
    cases z : (n == f) with
    | true => rw [z] at h; cases h; exact ⟨v, rfl, r1⟩
    | false => rw [z] at h; exact repF_look r2 h
theorem de_xat {c : Str} {a : Addr} {fs : List (Str × D)} {n : Str} {d : D} {ns : List Str} (T : XfD X.K X.mg c ns) (hn : n ∈ ns) (xa : XAt X w c a fs) (hl : fs.lookup n = some d) (hb : attributeBase e n X.env (eval e X.env) = eval e X.env) (he : DE X w e Γ M fun x M1 => x = .ptr a ∧ Q d M1) :
    DE X w (.Attribute e n pos) Γ M Q := .mk fun F σ H Hb A => by
  obtain ⟨oe, dd, ws, h1, h2, h3, h4, h5⟩ := xa.ex
  refine semE_of (pe_xfQ h1 T.xf (T.nf n hn) h2 h3 semE_ok hb) (semE_mono (he.run F σ H Hb A) fun v H1 ⟨Hb1, d1, M1, e1, A1, r1', ed, q⟩ => ?_)
  subst ed
  have ev := rep_ptr r1'
  subst ev
  obtain ⟨u, hu, ru⟩ := repF_look h5 hl
  exact ⟨rfl, dd, ws, u, rfl, h4.elim (fun z => A1.hs.ex _ _ (A1.h0 _ _ z)) (fun z => (A1.hs.fr _ _ (A1.f0 _ _ z)).1), hu, Hb1, d, M1, e1, A1, ru.mono A1.h0, q⟩
end
end L3
/-! ### 67. _law_field: the caught error's own field -/
namespace L3
open PySem PySem.Spec PyProof.Rows L2 L3X
/-- which field _law_field reads, by the error's code -/
def fldName (c : Str) : Option Str :=
  if c ∈ (["InvalidName", "InvalidCount", "InvalidPicture", "InvalidIndex", "InvalidGrouping", "InvalidGroup", "InvalidRule"] : List Str) then some "given" else
  if c ∈ (["DuplicateLabel", "UnknownLabel"] : List Str) then some "name" else if c ∈ (["InvalidSaying", "InvalidRow"] : List Str) then some "at" else if c = "InvalidText" then some "line" else if c = "Full" then some "limit" else if c = "TooMany" then some "most" else none
def fldOf (code : Str) (fs : List (Str × D)) : Option D := match fldName code with
  | some n => fs.lookup n
  | none => some .non
section
variable {code : Str} {fs : List (Str × D)} {d : D}
theorem fld_given (h : ("InvalidName" : Str) = code ∨ ("InvalidCount" : Str) = code ∨ ("InvalidPicture" : Str) = code ∨ ("InvalidIndex" : Str) = code ∨ ("InvalidGrouping" : Str) = code ∨ ("InvalidGroup" : Str) = code ∨ ("InvalidRule" : Str) = code) (hd : fldOf code fs = some d) : fs.lookup ("given" : Str) = some d := by
  rcases h with rfl | rfl | rfl | rfl | rfl | rfl | rfl <;> exact hd
theorem fld_name (h : ("DuplicateLabel" : Str) = code ∨ ("UnknownLabel" : Str) = code) (hd : fldOf code fs = some d) : fs.lookup ("name" : Str) = some d := by
  rcases h with rfl | rfl <;> exact hd
theorem fld_at (h : ("InvalidSaying" : Str) = code ∨ ("InvalidRow" : Str) = code) (hd : fldOf code fs = some d) : fs.lookup ("at" : Str) = some d := by
  rcases h with rfl | rfl <;> exact hd
theorem fld_line (h : code = ("InvalidText" : Str)) (hd : fldOf code fs = some d) : fs.lookup ("line" : Str) = some d := by
  subst h; exact hd
theorem fld_limit (h : code = ("Full" : Str)) (hd : fldOf code fs = some d) : fs.lookup ("limit" : Str) = some d := by
  subst h; exact hd
theorem fld_most (h : code = ("TooMany" : Str)) (hd : fldOf code fs = some d) : fs.lookup ("most" : Str) = some d := by
  subst h; exact hd
theorem fld_none (h1 : ¬(("InvalidName" : Str) = code ∨ ("InvalidCount" : Str) = code ∨ ("InvalidPicture" : Str) = code ∨ ("InvalidIndex" : Str) = code ∨ ("InvalidGrouping" : Str) = code ∨ ("InvalidGroup" : Str) = code ∨ ("InvalidRule" : Str) = code)) (h2 : ¬(("DuplicateLabel" : Str) = code ∨ ("UnknownLabel" : Str) = code)) (h3 : ¬(("InvalidSaying" : Str) = code ∨ ("InvalidRow" : Str) = code)) (h4 : ¬ code = ("InvalidText" : Str)) (h5 : ¬ code = ("Full" : Str)) (h6 : ¬ code = ("TooMany" : Str)) (hd : fldOf code fs = some d) : D.non = d := by
  have e : fldName code = none := by
    unfold fldName
    simp only [List.mem_cons, List.not_mem_nil, or_false]
    rw [if_neg (fun z => h1 (by simpa [eq_comm] using z)), if_neg (fun z => h2 (by simpa [eq_comm] using z)), if_neg (fun z => h3 (by simpa [eq_comm] using z)), if_neg h4, if_neg h5, if_neg h6]
  unfold fldOf at hd
  rw [e] at hd
  exact Option.some.inj hd
end
abbrev fldNames : List Str := ["code", "given", "name", "at", "line", "limit", "most"]
def spFld (K : PySem.W.Frag) (mg : Str → Option Value) : XP → List V → Hp → VK → Prop := fun p vs H Q => ∃ (F Hb : Hp) (M : Mm) (c code : Str) (dd : Addr) (ws : List (Str × V)) (fs : List (Str × D)) (d : D), Hs K mg F Hb H M ∧ vs = [.ref p.1] ∧ Zc (.ref (ca mg c)) (some dd) p.2 ∧
  (∃ vs, p.2.data = .fields vs) ∧ (Hb dd = some (.xd ws) ∨ F dd = some (.xd ws)) ∧ RepF K mg Hb ws fs ∧ XfD K mg c fldNames ∧ fs.lookup ("code" : Str) = some (D.str code) ∧ PyData.strOk code = true ∧ fldOf code fs = some d ∧ ∀ v H' Hb', Ex Hb Hb' → Hs K mg F Hb' H' M → Rep K mg Hb' v d → Q v H'
/-- room for comparisons, where an exception may be handled -/
structure Sq (X : Cx) : Prop where
  u : X.A.units + 65 < cLine
section
variable {X : Cx} {w : Wi} {Γ : Ga} {M : Mm} {QT : Bool → Mm → Prop} {a b : Expr} {pos : Pos} {code : Str} {fs : List (Str × D)} {d : D}
theorem dtq_eq (S : Sq X) (h : DE X w a Γ M fun x M1 => DE X w b Γ M1 fun y M2 => pEq x y M2 fun z M3 => ∃ c, z = .bl c ∧ QT c M3) : DT X w (.Compare a [.Eq] [b] pos) Γ M QT := dt_cmp (od_eq (by have := S.u; omega)) (nobehind _ (by decide) (by decide)) h
theorem dtq_in (S : Sq X) (hm : behindInMarks .In b = false) (h : DE X w a Γ M fun x M1 => DE X w b Γ M1 fun y M2 => pIn false x y M2 fun z M3 => ∃ c, z = .bl c ∧ QT c M3) : DT X w (.Compare a [.In] [b] pos) Γ M QT := dt_cmp (od_in S.u) hm h
end
structure FldQ (P : Program) (W : World) (K : PySem.W.Frag) (mg : Str → Option Value) (base : Heap) (k : Nat) : Prop where
  gm : mg "_law_field" = some (.ref (ca mg "_law_field"))
  kp : PySem.W.keepIn K (.ref (ca mg "_law_field")) = true
  ex : ∃ fd, FnQ P W K mg base (L2.CX P W) k (ca mg "_law_field") fd ["_law_e"] (spFld K mg) ∧ Binds K fd ["_law_e"] []
theorem wok_no {X : Cx} {h0 f0 : Hp} : WOk X ⟨h0, f0, fun _ _ _ _ => False⟩ := (LamX.takes0 (X := X)).imp fun cls d σ H' z => by
  obtain ⟨_, _, _, _, _, _, _, _, _, _, _, _, _, _, _, _, z⟩ := z
  exact z.elim
section
variable {P : Program} {W : World} {K : PySem.W.Frag} {mg : Str → Option Value} {base : Heap}
theorem fldQ_of {st : Stmt} {n : Nm} {k : Nat} (T : TopFn K mg "_law_field" st) (chk : defB ["_law_e"] [] ["_law_e"] st n = true)
    (body : ∀ (X : Cx) (w : Wi) (a : Addr) (c code : Str) (fs : List (Str × D)) (d : D) (M : Mm), X.env.scope = defScope st → Sq X → XfD X.K X.mg c fldNames → XAt X w c a fs → fs.lookup ("code" : Str) = some (D.str code) → PyData.strOk code = true → fldOf code fs = some d →
      DS X w (defBody st) [("_law_e", 0, some (.ptr a))] M { nx := fun _ _ => False, rt := fun d' M' => d' = d ∧ M' = M }) : FldQ P W K mg base (k + 1) := by
  obtain ⟨gm, fd, Fu⟩ := T
  have dd := defB_of chk
  obtain ⟨oc, od, kV, doc, pm, an, cdv, ct, osl, hfd, lk, hcd⟩ := Fu.ex
  have bn := dd.binds Fu
  subst hfd
  refine ⟨gm, Fu.kp, _, fnQ_of lk hcd dd.sc (fun p vs H Q ⟨_, _, _, _, _, _, _, _, _, _, e, _⟩ => by rw [e]; rfl) (fun A outer s H vs Q E p hr hsp => ?_), bn⟩
  obtain ⟨F0, Hb, M, c, code, da, ws, fs, d, hs, hvs, hz, hf, hda, rws, xf, hcode, hok, hd, hq⟩ := hsp
  subst hvs
  refine ⟨semB _ _, semB_ok, ?_⟩
  have b := body (L2H.cxH (L2.CX P W) P W K mg base (([("_law_e" : Str)] : List Str) ++ ([] : List Str)) "_law_field" (defScope st) (ca mg "_law_field") cdv A outer s H E p) ⟨Hb, F0, fun _ _ _ _ => False⟩ p.1 c code fs d M rfl ⟨by have := hr.un; show (A.deeper _).units + 65 < cLine; omega⟩ xf ⟨p.2, da, ws, List.mem_cons_self, hz, hf, hda, rws⟩ hcode hok hd
  have at0 : At (L2H.cxH (L2.CX P W) P W K mg base (([("_law_e" : Str)] : List Str) ++ ([] : List Str)) "_law_field" (defScope st) (ca mg "_law_field") cdv A outer s H E p) ⟨Hb, F0, fun _ _ _ _ => False⟩ F0 Hb H (L2.start (([("_law_e" : Str)] : List Str) ++ ([] : List Str)) [.ref p.1]) [("_law_e", 0, some (.ptr p.1))] M :=
    ⟨wok_no, Ex.refl _, Ex.refl _, hs, Slots.start (N := [("_law_e" : Str)]) (C := []) (ds := [.ptr p.1]) (.cons .ptr .nil) (by simp) dd.sb.vis⟩
  exact semB_mono (b.run F0 _ H Hb at0) (fun σ' H' ⟨Hb', Γ', M', e', A', q'⟩ => q'.elim) (fun v H' ⟨Hb', d', M', e', h', r', q'⟩ => by obtain ⟨rfl, rfl⟩ := q'; exact hq v H' Hb' e' h' r') (fun _ _ ⟨_, _, _, _, _, z⟩ => z.elim) (fun _ _ ⟨_, _, _, _, _, z⟩ => z.elim)
end
section
variable {X : Cx} {w : Wi} {Γ : Ga} {M : Mm} {Q : D → Mm → Prop} {e : Expr} {pos p : Pos} {k : Nat}
theorem de_fldQ {c code : Str} {a : Addr} {fs : List (Str × D)} {d : D} (F : FldQ X.prog X.w X.K X.mg X.base k) (hr : L2H.RoomH k X.A) (hg : Gl X "_law_field") (xf : XfD X.K X.mg c fldNames) (xa : XAt X w c a fs) (hc : fs.lookup ("code" : Str) = some (D.str code)) (hk : PyData.strOk code = true) (hd : fldOf code fs = some d)
    (he : starEach [e] X.env = [(false, eval e X.env)]) (h : DA X w [e] Γ M fun ds M1 => ds = [.ptr a] ∧ Q d M1) : DE X w (.Call (.Name "_law_field" p) [e] [] pos) Γ M Q := .mk fun F0 σ H Hb A => by
  obtain ⟨fd, f, b⟩ := F.ex
  obtain ⟨oe, dd, ws, h1, h2, h3, h4, h5⟩ := xa.ex
  refine semE_of (pe_callQ f hr h1 hg F.gm F.kp b (fun σ pins H s e s' I z => pass_no pins σ H s e s' I z) semA_ok (by decide) he rfl) (semA_mono (h.run F0 σ H Hb A) fun vs H1 ⟨Hb1, ds, M1, e1, A1, rr, ed, q⟩ => ?_)
  subst ed
  obtain ⟨v, rfl, rv⟩ : ∃ v, vs = [v] ∧ Rep X.K X.mg Hb1 v (.ptr a) := by
    cases rr with
    | cons rv r2 => cases r2; exact ⟨_, rfl, rv⟩
  have ev := rep_ptr rv
  subst ev
  exact ⟨F0, Hb1, M1, c, code, dd, ws, fs, d, A1.hs, rfl, h2, h3, h4.imp (A1.h0 _ _) (A1.f0 _ _), h5.mono A1.h0, xf, hc, hk, hd, fun v H' Hb' e' h' r' => ⟨Hb', d, M1, e1.trans e', A1.hsTo e' h', r', q⟩⟩
end
end L3
/-! ### 68. The promise of a lambda, over the heap at the call that hands it over -/
namespace L3X
open PySem PySem.Spec PyProof.Rows L2 L3
/-- the heap without what is tracked and without the frames -/
def reb (h : Heap) (H : Hp) (fs : List Addr) : Heap := hidT h fun b => if b ∈ fs then some (.own 0) else H b
theorem reb_get {h : Heap} {H : Hp} {fs : List Addr} {b : Addr} {o : Obj} (e : h.get? b = some o) (n : H b = none) (hf : b ∉ fs) : (reb h H fs).get? b = some o := hidT_get e (by rw [if_neg hf]; exact n)
theorem of_reb {h : Heap} {H : Hp} {fs : List Addr} {b : Addr} {o : Obj} (e : (reb h H fs).get? b = some o) : h.get? b = some o ∧ H b = none ∧ b ∉ fs := by
  obtain ⟨h1, h2⟩ := of_hidT e
  by_cases hf : b ∈ fs
  · rw [if_pos hf] at h2; cases h2
  · rw [if_neg hf] at h2; exact ⟨h1, h2, hf⟩
theorem ff_base {h base base' : Heap} : ∀ {l : List Env}, h.FunFrames base l → (∀ b ∈ frs l, base'.get? b = none) → h.FunFrames base' l
  | [], _, _ => trivial
  | env :: rest, ⟨hk, ⟨L, o, hf, hn, ho, hd⟩, hr⟩, q => ⟨hk, ⟨L, o, hf, q L (List.mem_filterMap.mpr ⟨env, List.mem_cons_self, hf⟩), ho, hd⟩, ff_base hr fun b hb => q b (by
    obtain ⟨e, he, e2⟩ := List.mem_filterMap.mp hb
    exact List.mem_filterMap.mpr ⟨e, List.mem_cons_of_mem _ he, e2⟩)⟩
section
variable {X : Cx} {pins : List (Addr × Obj)} {σ : L2.St} {H : Hp} {s : Shared}
theorem reb_keep (I : Inv X pins σ H s) : ∀ b o, X.base.get? b = some o → (reb s.heap H (frs X.stack)).get? b = some o := fun b o e =>
  reb_get (I.bs b o e).1 (I.bs b o e).2 fun z => by
    have := (I.stack.mem z).1
    rw [e] at this; cases this
theorem env0_reb (I : Inv X pins σ H s) : Env0 X.prog X.w X.K X.mg (reb s.heap H (frs X.stack)) X.A X.stack s H := by
  have k := reb_keep I
  refine ⟨I.ok.frames, ⟨I.mod.kin.keeps k, I.mod.glob.keeps k, ?_, I.mod.nolimit.keeps k⟩, fun b o e => ⟨(of_reb e).1, (of_reb e).2.1⟩, by unfold reb; rw [hidT_size]; exact Nat.le_refl _, ?_, I.stkFree, I.hok, I.bare⟩
  · obtain ⟨mb, h1, h2⟩ := I.mod.blt
    exact ⟨mb, h1.keeps k, h2⟩
  · refine ff_base I.stack fun b hb => ?_
    cases z : (reb s.heap H (frs X.stack)).get? b with
    | none => rfl
    | some o => exact absurd hb (of_reb z).2.2
/-- what the heap says of a lesser base -/
theorem env0_less {P : Program} {w : World} {K : PySem.W.Frag} {mg : Str → Option Value} {base base' : Heap} {A : Around} {outer : List Env} (e : Env0 P w K mg base' A outer s H) (m : Mod K mg base) (k : ∀ b o, base.get? b = some o → base'.get? b = some o) (hz : base.objs.size ≤ base'.objs.size) : Env0 P w K mg base A outer s H := by
  refine ⟨e.frames, m, fun b o z => e.bs b o (k b o z), Nat.le_trans hz e.bsz, ?_, e.frf, e.hok, e.bare⟩
  refine ff_base e.funs fun b hb => ?_
  cases z : base.get? b with
  | none => rfl
  | some o => have := (e.funs.mem hb).1; rw [k _ _ z] at this; cases this
end
end L3X
namespace L3
open PySem PySem.Spec PyProof.Rows L2 L3X
/-- the context of a lambda's body -/
structure LamIn (X X' : Cx) (L : Lam) (k : Nat) (glb bts : List Str) : Prop where
  prog : X'.prog = X.prog
  w : X'.w = X.w
  K : X'.K = X.K
  mg : X'.mg = X.mg
  base : X'.base = X.base
  N : X'.N = X.N
  scope : X'.env.scope = L.scope
  sc : Sc X' k ⟨[], [], [], glb, bts⟩
/-- a lambda of X's def, its globals -/
structure LamOk (X : Cx) (L : Lam) (glb : List Str) : Prop where
  nm : LamN X.N L.nm X.env.scope L.scope
  clo : L.clo = cloFrom X.env.cells L.scope.names []
  bind : BindsL L
  gl : ∀ x ∈ glb, L.scope.names.lookup x = some .globalImplicit ∧ okN x = true
abbrev SpL := Mm → (D → Mm → Prop) → (Str → List (Str × D) → Mm → Prop) → Prop
def spClo (L : Lam) (vs : List V) (caps : List D) (S : SpL) : SpD := fun ds M Q E => ds = [.clo L vs caps] ∧ S M Q E
/-- the promise of a closure -/
def LamC (P : Program) (W : World) (K : PySem.W.Frag) (mg : Str → Option Value) (base : Heap) (k : Nat) (L : Lam) (vs : List V) (caps : List D) (S : SpL) : Prop :=
  ∀ (f : Addr) (A : Around) (outer : List Env) (s : Shared) (H : Hp) (Q : VK) (E : XK), Room (k + 1) A → Env0 P W K mg base A outer s H → spD K mg (spClo L vs caps S) [.ref f] H Q E → codeAny (model P W) A (.call (.ref f) ⟨[], []⟩) (CR (L2.CX P W) outer P W H s Q E) s
def capsG (G : Ga) : List D := G.map fun e => e.2.2.getD .non
def spLam (X : Cx) (L : Lam) (k : Nat) (glb bts : List Str) (G : Ga) : SpL := fun M Q E => ∀ (X' : Cx) (w' : Wi), LamIn X X' L k glb bts → (w'.ed = fun _ c fs M' => E c fs M') → DE X' w' L.body G M Q
section
variable {X : Cx} {pins : List (Addr × Obj)} {σ : L2.St} {H : Hp} {s : Shared} {w : Wi} {Γ : Ga} {M : Mm} {Q : D → Mm → Prop} {k0 k : Nat} {n : Nm}
theorem reps_at {K : PySem.W.Frag} {mg : Str → Option Value} {Hb : Hp} : ∀ {vs : List V} {ds : List D} {j : Nat} {v : V} {d : D}, Reps K mg Hb vs ds → vs[j]? = some v → ds[j]? = some d → Rep K mg Hb v d
  | _, _, 0, _, _, .cons r _, h1, h2 => by
    simp only [List.getElem?_cons_zero, Option.some.injEq] at h1 h2
    subst h1 h2; exact r
  | _, _, j + 1, _, _, .cons _ r, h1, h2 => by
    simp only [List.getElem?_cons_succ] at h1 h2
    exact reps_at r h1 h2
  | _, _, _, _, _, .nil, h1, _ => by simp at h1
theorem lamC_of {L : Lam} {glb : List Str} {G : Ga} {vs : List V} (I : Inv X pins σ H s) (hfn : ∀ x, X.fn x = true) (hst : X.stack = X.env :: X.outer) (hnd : X.N.Nodup) (hbt : ∀ x ∈ n.bts, X.mg x = none) (lok : LamOk X L glb) (nd : (G.map (·.2.1)).Nodup)
    (hG : ∀ e ∈ G, X.N[e.2.1]? = some e.1 ∧ Vis L.scope e.1 ∧ okN e.1 = true) (hv : ∀ (j : Nat) (e : Str × Nat × Option D), G[j]? = some e → ∃ v, σ[e.2.1]? = some (some v) ∧ vs[j]? = some v) :
    LamC X.prog X.w X.K X.mg (reb s.heap H (frs X.stack)) k L vs (capsG G) (spLam X L k glb n.bts G) := by
  intro f A outer s1 H1 Q E hr e0 hsp
  obtain ⟨F, Hb, ds, M, Qd, Ed, hs, rds, ⟨hds, hS⟩, hq, he⟩ := hsp
  subst hds
  obtain ⟨hL, hcap⟩ : LamAt Hb L f ∧ Reps X.K X.mg Hb vs (capsG G) := by
    cases rds with
    | cons rv r2 => cases rv with
      | clo a b => exact ⟨a, b⟩
  obtain ⟨doc, pm, dV, ctv, c', dvs, hf, hc, hln, hdf⟩ := hL
  obtain ⟨of1, _, _⟩ := e0.hok f _ (hs.ex _ _ hf)
  obtain ⟨⟨oc, vs', t, hoc, hdc, hvc⟩, _, _⟩ := e0.hok c' _ (hs.ex _ _ hc)
  have bnd : BindsTo s1 (PySem.W.kdv_fn "<lambda>" L.q L.params (.expr L.body) L.scope L.clo dV doc pm (.ref c') ctv) ⟨[], []⟩ (L.nm.zip dvs) := lok.bind _ _ _ _ _ _ _ hln (hdf.imp id fun ⟨t, e1, e2⟩ => ⟨t, e1, (e0.hok t _ (hs.ex _ _ e2)).1⟩)
  have e1 : Env0 X.prog X.w X.K X.mg X.base A outer s1 H1 := env0_less e0 I.mod (reb_keep I) (by unfold reb; rw [hidT_size]; exact Nat.le_trans I.ok.bsz I.sz)
  have cells : ∀ (x : Str) (c : Addr) (v : Option Value), X.env.cells.lookup x = some c → s.heap.IsCell c v → s1.heap.IsCell c v ∧ H1 c = none := fun x c v hx ⟨o, ho, hd⟩ => by
    have nf : c ∉ frs X.stack := fun z => by
      rw [hst] at z
      obtain ⟨e, hm, e2⟩ := List.mem_filterMap.mp z
      rcases List.mem_cons.mp hm with q | q
      · subst q
        have ef : X.env.frame = some X.env.locals := by
          rcases I.ok.stk with y | ⟨_, y⟩
          · rw [hst] at y
            exact absurd (congrArg List.length y) (by simp)
          · exact y
        rw [ef] at e2
        cases e2
        obtain ⟨m, ⟨o2, es, ep, h1, h2, _⟩, _⟩ := I.loc
        rw [ho] at h1
        cases h1
        rw [hd] at h2
        cases h2
      · obtain ⟨_, o2, h1, _⟩ := I.ok.funs.mem (List.mem_filterMap.mpr ⟨e, q, e2⟩)
        exact absurd (Heap.lt_size h1) (Nat.not_lt.mpr (I.ok.cab x c (hfn x) hx))
    obtain ⟨q1, q2⟩ := e0.bs c o (reb_get ho (I.freeC x c hx) nf)
    exact ⟨⟨o, q1, hd⟩, q2⟩
  refine PySem.W.kla_callFunE hr.depth of1 rfl lok.nm.co lok.nm.gen rfl ⟨c', oc, vs', t, rfl, hoc, hdc, hvc⟩ (bnd _ _ _ _ ?_)
  refine wpAny_newFunctionEnv (fun y hy => lok.nm.nocell y hy) (fun ⟨n, _⟩ hy => lok.nm.par n (List.of_mem_zip hy).1) (fun h₁ hns hsb => ⟨(e1.mod.nolimit.keeps fun b o e => (e1.bs b o e).1).fresh _ hsb, ?_⟩) lok.nm.kind
  show codeAny _ _ (.expr L.body (envL L s1.heap.objs.size f c')) _ _
  have kp : ∀ b o, s1.heap.get? b = some o → h₁.get? b = some o := fun b o e => hsb.extBut b o (Nat.ne_of_lt (Heap.lt_size e)) (Heap.get?_push_of_some _ e)
  have J : Inv (cxL X A outer s1 H1 E L f c') [] σ H1 { s1 with heap := h₁, toks := s1.toks + (L.nm.zip dvs).length } := inv_L I lok.nm lok.clo e1 hr.hd cells hns kp
  have wok : WOk (cxL X A outer s1 H1 E L f c') ⟨Hb, F, fun _ c fs M' => Ed c fs M'⟩ := by
    refine (takes_of rfl rfl rfl rfl : Takes (cxL X A outer s1 H1 E L f c') (fun cls d _ H => E cls d H)).imp fun cls d σ H' z => ?_
    obtain ⟨c, fs, dd, ws, F', Hb', Γ', M', h1, h2, h3, h4, h5, h6, h7, h8, h9⟩ := z
    subst h1 h2
    exact he c fs dd ws H' Hb' M' h9 h5 (h7.less h6) h3 h4
  have lin : LamIn X (cxL X A outer s1 H1 E L f c') L k glb n.bts := ⟨rfl, rfl, rfl, rfl, rfl, rfl, rfl, ⟨hnd, rfl, passes_of rfl, hr.deeper _, lok.nm.kind, by simp, by simp, by simp, fun x hx => lok.gl x hx, hbt⟩⟩
  have b := hS (cxL X A outer s1 H1 E L f c') ⟨Hb, F, fun _ c fs M' => Ed c fs M'⟩ lin rfl
  have sl : Slots X.K X.mg X.N L.scope Hb σ G := ⟨I.len, nd, hG, fun e he d hd => by
    obtain ⟨j, hj⟩ := List.getElem?_of_mem he
    obtain ⟨v, e1, e2⟩ := hv j e hj
    exact ⟨v, e1, reps_at hcap e2 (by unfold capsG; rw [List.getElem?_map, hj]; simp [hd])⟩⟩
  refine PySem.W.kla_codeExpr (wpAny_mono (b.run F σ H1 Hb ⟨wok, Ex.refl _, Ex.refl _, hs, sl⟩ [] _ J) (fun v s' hq' => ?_) fun e s' hq' => hq')
  obtain ⟨w', H', J', rv, Hb', d, M', e', A', r', q'⟩ := hq'
  exact ⟨w', H', J'.os, J'.bare, J'.base, J'.hok, rv, hq w' H' Hb' d M' q' e' A'.hs r'⟩
end
end L3
/-! ### 69. _law_got -/
namespace L3
open PySem PySem.Spec PyProof.Rows L2 L3X
section
variable {Z : Cx} {W : WX} {i k : Nat} {a : Str} {p1 p2 : Pos}
theorem pe_actC {P : Program} {w : World} {K : PySem.W.Frag} {mg : Str → Option Value} {base : Heap} (e1 : Z.prog = P) (e2 : Z.w = w) (e3 : Z.K = K) (e4 : Z.mg = mg) (e5 : Z.base = base) (tk : Takes Z W) (hr : Room (k + 1) Z.A) (hN : Z.N[i]? = some a) (hv : Vis Z.env.scope a) (hd : (a == ("__debug__" : Str)) = false := by decide) (hcd : (a == ("__classdict__" : Str)) = false := by decide) :
    PE Z (.Call (.Name a p1) [] [] p2) (fun σZ HZ Q => ∃ (f : Addr) (L : Lam) (vs : List V) (caps : List D) (S : SpL) (Hb : Hp), σZ[i]? = some (some (.ref f)) ∧ Ex Hb HZ ∧ LamAt Hb L f ∧ LamC P w K mg base k L vs caps S ∧
      spD K mg (spClo L vs caps S) [.ref f] HZ Q (WE W σZ)) := by
  subst e1 e2 e3 e4 e5
  refine ⟨fun pinsZ sZ σZ HZ Q IZ h => ?_⟩
  obtain ⟨f, L, vs, caps, S, Hb, hs, hex, hL, hC, hsp⟩ := h
  refine wpAny_Call_Name_kw (thn ((pe_var (pos := p1) (i := i) hN hv hd hcd).run pinsZ sZ σZ HZ (fun v H1 => v = .ref f ∧ H1 = HZ) IZ ⟨.ref f, hs, rfl, rfl⟩) fun u s1 ⟨v, H1, I1, ru, qv⟩ => ?_)
  obtain ⟨ev, eH⟩ := qv
  subst ev
  rw [eH] at I1
  obtain rfl : u = Value.ref f := ru
  obtain ⟨doc, pm, dV, ctv, c', dvs, hf, hc, hln, hdf⟩ := hL
  obtain ⟨of1, _, _⟩ := I1.hok f _ (hex _ _ hf)
  refine PySem.W.callWith_F0 ⟨_, _, _, _, of1⟩ ?_
  have rc := hC f Z.A Z.stack s1 HZ Q (WE W σZ) hr I1.env0 hsp
  have hx := L2.passAt tk σZ
  refine wpAny_call (codeAny_mono rc fun r s' hq => ?_)
  cases r with
  | error e => exact hx pinsZ HZ s1 e s' I1 hq
  | ok fl =>
    cases fl with
    | ret u => exact I1.after hq
    | next => exact False.elim hq
    | brk => exact False.elim hq
    | cont => exact False.elim hq
end
/-- _law_got's text -/
def gotBody (q1 q2 q3 q4 q5 q6 q7 q8 q9 qa qb qc qd qe qf qg qh qi : Pos) (j1 j2 j3 j4 : Nat) : List Stmt :=
  [.Try [.Return (some (.Tuple [.Constant (.str "") j1 q1, .Call (.Name "_law_ask" q2) [] [] q3] j2 q4)) q5]
    [.ExceptHandler (some (.Tuple [.Name "RoamError" q6, .Name "Missing" q7, .Name "NothingLeft" q8] j3 q9)) (some "_law_e")
      [.Return (some (.Tuple [.Attribute (.Name "_law_e" qa) "code" qb, .Call (.Name "_law_field" qc) [.Name "_law_e" qd] [] qe] j4 qf)) qg] qh] [] [] qi]
abbrev nGot : Nm := ⟨["_law_ask", "_law_e"], ["_law_ask", "_law_e"], [], ["RoamError", "Missing", "NothingLeft", "_law_field"], []⟩
/-- an error class whose errors _law_got catches -/
structure CaughtD (K : PySem.W.Frag) (mg : Str → Option Value) (c : Str) : Prop where
  xf : XfD K mg c fldNames
  ex : PySem.W.exmAny K (.ref (ca mg c)) [.ref (ca mg "RoamError"), .ref (ca mg "Missing"), .ref (ca mg "NothingLeft")] = some true
/-- what _law_got makes of an error -/
def gotE (K : PySem.W.Frag) (mg : Str → Option Value) (Q : D → Mm → Prop) : Str → List (Str × D) → Mm → Prop := fun c fs M' => CaughtD K mg c ∧ ∃ (code : Str) (d : D), fs.lookup ("code" : Str) = some (D.str code) ∧ PyData.strOk code = true ∧ fldOf code fs = some d ∧ Q (.tup [.str code, d]) M'
def spGot (P : Program) (W : World) (K : PySem.W.Frag) (mg : Str → Option Value) (base : Heap) (k : Nat) : SpD := fun ds M Q _ => ∃ (L : Lam) (vs : List V) (caps : List D) (S : SpL), ds = [.clo L vs caps] ∧ LamC P W K mg base k L vs caps S ∧
  S M (fun d M' => Q (.tup [.str "", d]) M') (gotE K mg Q)
section
variable {P : Program} {W : World} {K : PySem.W.Frag} {mg : Str → Option Value} {base : Heap} {k kf : Nat}
theorem got_ok {st : Stmt} (T : TopFn K mg "_law_got" st) (chk : defB ["_law_ask", "_law_e"] [] ["_law_ask"] st nGot = true) {q1 q2 q3 q4 q5 q6 q7 q8 q9 qa qb qc qd qe qf qg qh qi : Pos} {j1 j2 j3 j4 : Nat} (hbody : defBody st = gotBody q1 q2 q3 q4 q5 q6 q7 q8 q9 qa qb qc qd qe qf qg qh qi j1 j2 j3 j4)
    (cR : mg "RoamError" = some (.ref (ca mg "RoamError"))) (cM : mg "Missing" = some (.ref (ca mg "Missing"))) (cN : mg "NothingLeft" = some (.ref (ca mg "NothingLeft"))) (G : FldQ P W K mg base kf) (hkf : kf ≤ k + 1) : FnD P W K mg base (k + 2) "_law_got" ["_law_ask"] [] (spGot P W K mg base k) := by
  obtain ⟨gm, fd, Fu⟩ := T
  have dd := defB_of chk
  have bn := dd.binds Fu
  have kp := Fu.kp
  obtain ⟨oc, od, kV, doc, pm, an, cdv, ct, osl, hfd, lk, hcd⟩ := Fu.ex
  subst hfd
  refine ⟨gm, kp, _, fn_of (N := [("_law_ask" : Str), "_law_e"] ++ []) lk hcd dd.sc (fun vs H Q E ⟨_, _, ds, _, _, _, _, r, q, _, _⟩ => by obtain ⟨_, _, _, _, e, _⟩ := q; rw [r.length, e]; rfl) (fun A outer s H vs Q E hr hsp => ?_), bn, kw_nil⟩
  obtain ⟨F, Hb, ds, M, Qd, Ed, hs, rds, ⟨L, vs', caps, S, rfl, hC, hS⟩, hq, he⟩ := hsp
  obtain ⟨f, rfl, hL⟩ : ∃ f, vs = [.ref f] ∧ LamAt Hb L f := by
    cases rds with
    | cons rv r2 => cases r2; cases rv with
      | clo hl _ => exact ⟨_, rfl, hl⟩
  rw [hbody]
  unfold gotBody
  have hgl : ∀ x ∈ nGot.glb, Gl (cxOf (L2.CX P W) P W K mg base ([("_law_ask" : Str), "_law_e"] ++ []) "_law_got" (defScope st) (ca mg "_law_got") cdv A outer s H E) x := fun x hx => (dd.sb.gl x hx).1
  refine ⟨_, pss_one (ps_try_tup (X := cxOf (L2.CX P W) P W K mg base ([("_law_ask" : Str), "_law_e"] ++ []) "_law_got" (defScope st) (ca mg "_law_got") cdv A outer s H E)
    (c1 := .ref (ca mg "RoamError")) (c2 := .ref (ca mg "Missing")) (c3 := .ref (ca mg "NothingLeft")) (i := 1)
    (ts := fun a cls d D σ H1 => ∀ (oe : Obj) (pn : List (Addr × Obj)), Zc cls d oe → (∃ vs, oe.data = .fields vs) → semB ((cxOf (L2.CX P W) P W K mg base ([("_law_ask" : Str), "_law_e"] ++ []) "_law_got" (defScope st) (ca mg "_law_got") cdv A outer s H E).suite a ((a, oe) :: pn)) _ D σ H1)
    rfl rfl dd.sc.nd rfl (dd.sb.lcl "_law_e" (by simp)) ⟨hgl _ (by simp), by decide, .inl cR⟩ ⟨hgl _ (by simp), by decide, .inl cM⟩ ⟨hgl _ (by simp), by decide, .inl cN⟩ LamX.takes0
    (fun Wx pn xe tk _ => pss_one (ps_ret (pe_tup (pa_cons pe_str (pa_cons (pe_actC (P := P) (w := W) (K := K) (mg := mg) (base := base) (k := k) (i := 0) rfl rfl rfl rfl rfl tk hr rfl (.inl (dd.sb.lcl "_law_ask" (by simp)))) pa_nil)))))
    (fun a oe cls d pn hz hf => ⟨fun pins s σ H D I h => semB_ok.run pins s σ H D I (h oe pn hz hf)⟩)), ?_⟩
  refine ⟨f, L, vs', caps, S, Hb, rfl, hs.ex, hL, hC, F, Hb, [.clo L vs' caps], M, (fun d M' => Qd (.tup [.str "", d]) M'), gotE K mg Qd, hs, rds, ⟨rfl, hS⟩, fun v H2 Hb2 d M2 q2 e2 h2 r2 => ⟨by rw [sizeLine_eq]; simp, fun p hp => ?_⟩, ?_⟩
  · exact hq _ _ (upd Hb2 p (.tup [.str "", v])) _ _ q2 (e2.trans (Ex.new (h2.ex.free hp))) (h2.new hp _) (.tup (.inl (.inl upd_same)) (.cons .str (.cons (r2.mono (Ex.new (h2.ex.free hp))) .nil)))
  · rintro c fs da ws H' Hb' M' ⟨hc, code, dfl, h9, hok, h10, h11⟩ h5 hs1 h3 h4
    refine ⟨true, hc.ex, fun _ a ha oe pn hz hf => ?_, fun z => by cases z⟩
    have rM : L2H.RoomH kf ((A.deeper (envOfC ("_law_got" : Str) (defScope st) s.heap.objs.size (ca mg "_law_got") cdv)).mark (some (.ref a))) := by
      have r := hr.mono hkf
      exact ⟨r.dp, r.un⟩
    -- the error's dict: data, or a thing of the frame
    obtain ⟨F2, eF, hF, hs2⟩ : ∃ F2, Ex F F2 ∧ (Hb' da = some (.xd ws) ∨ F2 da = some (.xd ws)) ∧ Hs K mg F2 Hb' H' M' := by
      cases zb : Hb' da with
      | some o => exact ⟨F, Ex.refl _, .inl (by rw [← h3, hs1.ex _ _ zb]), hs1⟩
      | none =>
        have zm : M' da = none := by
          cases zm : M' da with
          | none => rfl
          | some cl =>
            have := (hs1.ce _ _ zm).2
            cases cl with
            | l _ => obtain ⟨_, z, _⟩ := this; rw [h3] at z; cases z
            | k _ => obtain ⟨_, z, _⟩ := this; rw [h3] at z; cases z
            | t _ => obtain ⟨_, z, _⟩ := this; rw [h3] at z; cases z
            | o _ _ => obtain ⟨_, _, z, _⟩ := this; rw [h3] at z; cases z
            | tb _ => obtain ⟨_, z, _⟩ := this; rw [h3] at z; cases z
        refine ⟨upd F da (.xd ws), fun b o z => ?_, .inr upd_same, hs1.ex, hs1.ce, fun b o z => ?_⟩
        · by_cases hb : b = da
          · subst hb; rw [upd_same, ← (hs1.fr _ _ z).1, h3]
          · rw [upd_ne hb]; exact z
        · by_cases hb : b = da
          · subst hb; rw [upd_same] at z; cases z; exact ⟨h3, zb, zm⟩
          · rw [upd_ne hb] at z; exact hs1.fr _ _ z
    have dsS : DS ((cxOf (L2.CX P W) P W K mg base ([("_law_ask" : Str), "_law_e"] ++ []) "_law_got" (defScope st) (ca mg "_law_got") cdv A outer s H E).suite a ((a, oe) :: pn)) ⟨Hb', F2, fun _ _ _ _ => False⟩
        [.Return (some (.Tuple [.Attribute (.Name "_law_e" qa) "code" qb, .Call (.Name "_law_field" qc) [.Name "_law_e" qd] [] qe] j4 qf)) qg] [("_law_e", 1, some (.ptr a))] M' { nx := fun _ _ => False, rt := fun d' M2 => d' = .tup [.str code, dfl] ∧ M2 = M' } := by
      have xa : XAt ((cxOf (L2.CX P W) P W K mg base ([("_law_ask" : Str), "_law_e"] ++ []) "_law_got" (defScope st) (ca mg "_law_got") cdv A outer s H E).suite a ((a, oe) :: pn)) ⟨Hb', F2, fun _ _ _ _ => False⟩ c a fs :=
        ⟨oe, da, ws, List.mem_cons_self, hz, hf, hF, h4⟩
      refine ds_ret (de_tup (da_cons rfl (de_xat hc.xf (by simp) xa h9 rfl (de_name .here ⟨rfl, da_cons rfl (de_fldQ (k := kf) G rM (hgl _ (by simp)) hc.xf xa h9 hok h10 rfl (da_cons rfl (de_name .here (da_nil ⟨rfl, da_nil ⟨?_, rfl, rfl⟩⟩))))⟩))))
      rw [sizeLine_eq]; simp
    have atS : At ((cxOf (L2.CX P W) P W K mg base ([("_law_ask" : Str), "_law_e"] ++ []) "_law_got" (defScope st) (ca mg "_law_got") cdv A outer s H E).suite a ((a, oe) :: pn)) ⟨Hb', F2, fun _ _ _ _ => False⟩ F2 Hb' H' ((L2.start ([("_law_ask" : Str), "_law_e"] ++ []) [V.ref f]).set 1 (some (.ref a))) [("_law_e", 1, some (.ptr a))] M' := by
      refine ⟨wok_no, Ex.refl _, Ex.refl _, hs2, rfl, by simp, fun e he => ?_, fun e he d hd => ?_⟩
      · obtain rfl := List.mem_singleton.mp he
        exact ⟨rfl, .inl (dd.sb.lcl "_law_e" (by simp)), (show okN ("_law_e" : Str) = true by decide)⟩
      · obtain rfl := List.mem_singleton.mp he
        cases hd
        exact ⟨.ref a, rfl, .ptr⟩
    exact semB_mono (dsS.run F2 _ H' Hb' atS) (fun _ _ ⟨_, _, _, _, _, z⟩ => z.elim) (fun v H2 ⟨Hb2, d', M2, e2, h2, r2, q2⟩ => by obtain ⟨rfl, rfl⟩ := q2; exact hq v H2 Hb2 _ _ h11 (h5.trans e2) (h2.less eF) r2) (fun _ _ ⟨_, _, _, _, _, z⟩ => z.elim) (fun _ _ ⟨_, _, _, _, _, z⟩ => z.elim)
end
end L3
/-! ### 70. Lambdas handed over: a call by the def that made them -/
namespace L3
open PySem PySem.Spec PyProof.Rows L2 L3X
structure Clo4 where
  L : Lam
  vs : List V
  caps : List D
  S : SpL
def Clo4.d (l : Clo4) : D := .clo l.L l.vs l.caps
/-- one after the other: what _law_got makes of each -/
def allOk (K : PySem.W.Frag) (mg : Str → Option Value) (Q : List D → Mm → Prop) : List Clo4 → List D → Mm → Prop
  | [], acc, M => Q acc M
  | l :: ls, acc, M => l.S M (fun d M' => allOk K mg Q ls (acc ++ [.tup [.str "", d]]) M') (gotE K mg fun d M' => allOk K mg Q ls (acc ++ [d]) M')
def spAll (P : Program) (W : World) (K : PySem.W.Frag) (mg : Str → Option Value) (base : Heap) (k : Nat) : SpD := fun ds M Q _ => ∃ ls : List Clo4, ds = [.lst (ls.map Clo4.d)] ∧ ls.length ≤ sizeLine ∧ (∀ l ∈ ls, LamC P W K mg base k l.L l.vs l.caps l.S) ∧
  allOk K mg (fun rs M' => Q (.lst rs) M') ls [] M
/-- a lambda at a call: the captured names that its body may read -/
structure LCap where
  L : Lam
  glb : List Str
  G : Ga
structure LCapOk (X : Cx) (Γ : Ga) (l : LCap) : Prop where
  ok : LamOk X l.L l.glb
  sub : l.G.Sublist Γ
  vis : ∀ e ∈ l.G, Vis l.L.scope e.1 ∧ e.2.2.isSome = true
def LCap.fn (l : LCap) : D := .fn l.L
def LCap.clo (X : Cx) (k : Nat) (bts : List Str) (vsOf : Ga → List V) (l : LCap) : Clo4 := ⟨l.L, vsOf l.G, capsG l.G, spLam X l.L k l.glb bts l.G⟩
section
variable {X : Cx} {w : Wi} {Γ : Ga} {M : Mm} {Q : D → Mm → Prop} {arg : Expr} {pos p : Pos} {k0 k kc : Nat} {n : Nm} {x y : Str}
def vsAt (σ : L2.St) (G : Ga) : List V := G.map fun e => match σ[e.2.1]? with
  | some (some v) => v
  | _ => .non
theorem vsAt_get {K : PySem.W.Frag} {mg : Str → Option Value} {N : List Str} {sc : Scope} {Hb : Hp} {σ : L2.St} (sl : Slots K mg N sc Hb σ Γ) {G : Ga} (sub : G.Sublist Γ) (hs : ∀ e ∈ G, e.2.2.isSome = true) : ∀ (j : Nat) (e : Str × Nat × Option D), G[j]? = some e → ∃ v, σ[e.2.1]? = some (some v) ∧ (vsAt σ G)[j]? = some v := fun j e hj => by
  have hm := List.mem_of_getElem? hj
  obtain ⟨d, hd⟩ := Option.isSome_iff_exists.mp (hs e hm)
  obtain ⟨v, h1, h2⟩ := sl.get e (sub.subset hm) d hd
  refine ⟨v, h1, ?_⟩
  unfold vsAt
  rw [List.getElem?_map, hj, Option.map_some, h1]
theorem vsAt_reps {K : PySem.W.Frag} {mg : Str → Option Value} {N : List Str} {sc : Scope} {Hb : Hp} {σ : L2.St} (sl : Slots K mg N sc Hb σ Γ) : ∀ {G : Ga}, (∀ e ∈ G, e ∈ Γ) → (∀ e ∈ G, e.2.2.isSome = true) → Reps K mg Hb (vsAt σ G) (capsG G)
  | [], _, _ => .nil
  | e :: G, hm, hs => by
    obtain ⟨d, hd⟩ := Option.isSome_iff_exists.mp (hs e List.mem_cons_self)
    obtain ⟨v, h1, h2⟩ := sl.get e (hm e List.mem_cons_self) d hd
    refine .cons ?_ (vsAt_reps sl (fun e he => hm e (List.mem_cons_of_mem _ he)) fun e he => hs e (List.mem_cons_of_mem _ he))
    dsimp only
    rw [h1, hd]
    exact h2
theorem clo_reps {K : PySem.W.Frag} {mg : Str → Option Value} {N : List Str} {sc : Scope} {Hb : Hp} {σ : L2.St} (sl : Slots K mg N sc Hb σ Γ) {bts : List Str} : ∀ {ls : List LCap} {us : List V}, (∀ l ∈ ls, LCapOk X Γ l) → Reps K mg Hb us (ls.map LCap.fn) → Reps K mg Hb us (ls.map fun l => (l.clo X k bts (vsAt σ)).d)
  | [], _, _, .nil => .nil
  | l :: ls, _, h, .cons r rs => by
    refine .cons ?_ (clo_reps sl (fun l hl => h l (List.mem_cons_of_mem _ hl)) rs)
    have o := h l List.mem_cons_self
    cases r with
    | fn hl => exact .clo hl (vsAt_reps sl (fun e he => o.sub.subset he) fun e he => (o.vis e he).2)
/-- f(e), e lambdas of this def: a list of them, or one -/
theorem de_callR {S : Heap → SpD} (Sx : Sc X k0 n) (hfn : X.fn = fun _ => true) (hst : X.stack = X.env :: X.outer) (C : ∀ base, FnD X.prog X.w X.K X.mg base k x [y] [] (S base)) (hk : k ≤ k0) (hx : x ∈ n.glb) (he : starEach [arg] X.env = [(false, eval arg X.env)])
    (h : DA X w [arg] Γ M fun ds M1 => ∃ (ls : List LCap) (one : Bool), ds = (if one then ls.map LCap.fn else [.lst (ls.map LCap.fn)]) ∧ (∀ l ∈ ls, LCapOk X Γ l) ∧
      ∀ (base : Heap) (vsOf : Ga → List V), (∀ l ∈ ls, LamC X.prog X.w X.K X.mg base kc l.L (vsOf l.G) (capsG l.G) (spLam X l.L kc l.glb n.bts l.G)) →
        S base (if one then ls.map fun l => (l.clo X kc n.bts vsOf).d else [.lst (ls.map fun l => (l.clo X kc n.bts vsOf).d)]) M1 Q fun c fs M' => w.ed Γ c fs M') : DE X w (.Call (.Name x p) [arg] [] pos) Γ M Q := .mk fun F σ H Hb A pins s I => by
  have kp := (C X.base).kp
  have gm := (C X.base).gm
  refine wpAny_Call_Name_kw (ld_glob I (Sx.gl _ hx).1 gm ?_ (okN_d (Sx.gl _ hx).2))
  refine PySem.W.callWith_K (h₀ := X.base) I.ok.mod.kin kp (thn ((h.run F σ H Hb A) pos pins s I) fun us s1 ⟨vs, H1, I1, rr, Hb1, ds, M1, e1, A1, rds, ls, one, ed, lok, hS⟩ => ⟨I1.kIn, ?_⟩) he rfl
  subst ed
  have hS := hS (reb s1.heap H1 (frs X.stack)) (vsAt σ) fun l hl => lamC_of I1 (fun y => by rw [hfn]) hst Sx.nd Sx.bt (lok l hl).ok (A1.sl.nd.sublist ((lok l hl).sub.map _)) (fun e he => ⟨(A1.sl.nm e ((lok l hl).sub.subset he)).1, ((lok l hl).vis e he).1, (A1.sl.nm e ((lok l hl).sub.subset he)).2.2⟩) (vsAt_get A1.sl (lok l hl).sub fun e he => ((lok l hl).vis e he).2)
  obtain ⟨fd, f, b, _⟩ := (C (reb s1.heap H1 (frs X.stack))).ex
  have rds' : Reps X.K X.mg Hb1 vs (if one then ls.map fun l => (l.clo X kc n.bts (vsAt σ)).d else [.lst (ls.map fun l => (l.clo X kc n.bts (vsAt σ)).d)]) := by
    cases one with
    | true =>
      rw [if_pos rfl] at rds ⊢
      exact clo_reps A1.sl lok rds
    | false =>
      rw [if_neg Bool.false_ne_true] at rds ⊢
      cases rds with
      | cons rv r2 => cases r2; cases rv with
        | lst h1 r3 => exact .cons (.lst h1 (clo_reps A1.sl lok r3)) .nil
  have hsp := run_spD A1 e1 rds' hS
  have hl : us.length = [y].length := by rw [← rr.length]; exact f.len _ _ _ _ hsp
  have bb := b s1 us I1.kIn (by rw [List.append_nil]; exact hl)
  rw [List.append_nil] at bb
  refine wpAny_call (codeAny_mono (f.run X.A X.stack s1 H1 ⟨us, []⟩ us vs _ _ (Sx.room.mono hk) (env0_reb I1) bb rr hsp) fun r s' hq => ?_)
  cases r with
  | error e => exact L2.passAt A1.wok σ pins H1 s1 e s' I1 hq
  | ok fl =>
    cases fl with
    | ret u => exact I1.after hq
    | next => exact False.elim hq
    | brk => exact False.elim hq
    | cont => exact False.elim hq
end
end L3
/-! ### 71. Defs that make lambdas; the law's end with tables -/
namespace L3
open PySem PySem.Spec PyProof.Rows L2 L3X
theorem bindsL0 {L : Lam} (hn : L.nm = []) (h0 : ∀ (doc pm cdv ctv : Value), bindArgs (PySem.W.kdv_fn "<lambda>" L.q L.params (.expr L.body) L.scope L.clo .none doc pm cdv ctv) ⟨[], []⟩ = pure [])
    (h : ∀ (doc pm cdv ctv : Value) (t : Addr), ∃ k, bindArgs (PySem.W.kdv_fn "<lambda>" L.q L.params (.expr L.body) L.scope L.clo (.ref t) doc pm cdv ctv) ⟨[], []⟩ = seqItems? (.ref t) >>= k ∧ k (some #[]) = pure []) : BindsL L := fun doc pm dV cdv ctv dvs s hl hd => by
  rw [hn] at hl ⊢
  obtain rfl : dvs = [] := List.length_eq_zero_iff.mp hl
  rcases hd with ⟨rfl, _⟩ | ⟨t, rfl, e⟩
  · exact .of_eq (h0 doc pm cdv ctv)
  · obtain ⟨k, h1, h2⟩ := h doc pm cdv ctv t
    exact BindsTo.of_defaults (T := t) (items := #[]) rfl e rfl h1 h2
theorem bindsL1 {L : Lam} {x : Str} (hn : L.nm = [x]) (h : ∀ (doc pm cdv ctv : Value) (t : Addr) (u : Value), ∃ k, bindArgs (PySem.W.kdv_fn "<lambda>" L.q L.params (.expr L.body) L.scope L.clo (.ref t) doc pm cdv ctv) ⟨[], []⟩ = seqItems? (.ref t) >>= k ∧ k (some #[u]) = pure [(x, u)]) : BindsL L := fun doc pm dV cdv ctv dvs s hl hd => by
  rw [hn] at hl ⊢
  obtain ⟨u, rfl⟩ : ∃ u, dvs = [u] := List.length_eq_one_iff.mp hl
  rcases hd with ⟨_, z⟩ | ⟨t, rfl, e⟩
  · cases z
  · obtain ⟨k, h1, h2⟩ := h doc pm cdv ctv t u
    exact BindsTo.of_defaults (T := t) (items := #[u]) rfl e rfl h1 h2
section
variable {P : Program} {W : World} {K : PySem.W.Frag} {mg : Str → Option Value} {base : Heap}
/-- more of a def's context: it may make lambdas -/
structure MakesL (X : Cx) (qual : Str) (T : Addr) : Prop where
  fn : X.fn = fun _ => true
  st : X.stack = X.env :: X.outer
  ql : X.env.qual = qual ++ ".<locals>."
  tb : CodeTab X T
theorem fnOk_ofL {x qual : Str} {st : Stmt} {f : Addr} {fd : FuncData} (N C ps : List Str) (n : Nm) {k : Nat} {S : SpD} {c T : Addr} (F : Fun K x qual st f fd) (chk : defB N C ps st n = true) (hbt : ∀ x ∈ n.bts, mg x = none) (hc : fd.code = .ref c) (TB : LamX.TabB base mg c T)
    (len : ∀ ds M Q E, S ds M Q E → ds.length = ps.length)
    (body : ∀ (X : Cx) (w : Wi) (ds : List D) (M : Mm) (Q : D → Mm → Prop) (E : Str → List (Str × D) → Mm → Prop), X.prog = P → X.w = W → X.K = K → X.mg = mg → X.base = base → X.N = N ++ C → X.env.scope = defScope st → Sc X k n → MakesL X qual T → S ds M Q E → (w.ed = fun _ c fs M' => E c fs M') →
      DS X w (defBody st) (mkG 0 N ds) M { nx := fun _ M' => Q .non M', rt := Q }) : FnOk P W K mg base (L2.CX P W) (k + 1) f fd ps (spD K mg S) := by
  have dd := defB_of chk
  have Sc0 := dd.sc
  have sb' := dd.sb
  have hps := dd.len
  obtain ⟨oc, od, kV, doc, pm, an, cdv, ct, osl, hfd, lk, hcd⟩ := F.ex
  subst hfd
  obtain rfl : cdv = .ref c := hc
  refine fn_of lk hcd Sc0 (fun vs H Q E ⟨_, _, ds, _, _, _, _, r, q, _, _⟩ => by rw [r.length]; exact len _ _ _ _ q) (fun A outer s H vs Q E hr hsp => ?_)
  obtain ⟨F0, Hb, ds, M, Qd, Ed, hs, r, q, hQ, hE⟩ := hsp
  refine ⟨semB _ _, semB_ok, ?_⟩
  have sc : Sc (cxD P W K mg base (N ++ C) qual st f (.ref c) A outer s H E) k n :=
    ⟨Sc0.nd, rfl, passes_of rfl, hr, sb'.kd, fun y hy => ⟨sb'.loc y hy, .inl rfl⟩, sb'.lcl, sb'.cel, fun y hy => sb'.gl y hy, hbt⟩
  have b := body (cxD P W K mg base (N ++ C) qual st f (.ref c) A outer s H E) ⟨Hb, F0, fun _ c fs M' => Ed c fs M'⟩ ds M Qd Ed rfl rfl rfl rfl rfl rfl rfl sc ⟨rfl, rfl, rfl, c, TB, rfl⟩ q rfl
  have dl := len _ _ _ _ q
  have wok : WOk (cxD P W K mg base (N ++ C) qual st f (.ref c) A outer s H E) ⟨Hb, F0, fun _ c fs M' => Ed c fs M'⟩ := by
    refine (takes_of rfl rfl rfl rfl : Takes _ (fun cls d _ H => E cls d H)).imp fun cls d σ H' z => ?_
    obtain ⟨c, fs, dd, ws, F', Hb', Γ', M', h1, h2, h3, h4, h5, h6, h7, h8, h9⟩ := z
    subst h1 h2
    exact hE c fs dd ws H' Hb' M' h9 h5 (h7.less h6) h3 h4
  have at0 : At (cxD P W K mg base (N ++ C) qual st f (.ref c) A outer s H E) ⟨Hb, F0, fun _ c fs M' => Ed c fs M'⟩ F0 Hb H (L2.start (N ++ C) vs) (mkG 0 N ds) M :=
    ⟨wok, Ex.refl _, Ex.refl _, hs, Slots.start r (by show ds.length ≤ N.length; omega) sb'.vis⟩
  exact semB_mono (b.run F0 _ H Hb at0) (fun σ' H' ⟨Hb', Γ', M', e', A', q'⟩ => hQ .non H' Hb' .non M' q' e' A'.hs .non) (fun v H' ⟨Hb', d, M', e', h', r', q'⟩ => hQ v H' Hb' d M' q' e' h' r') (fun _ _ ⟨_, _, _, _, _, z⟩ => z.elim) (fun _ _ ⟨_, _, _, _, _, z⟩ => z.elim)
end
theorem find_tb {tbs : List (Addr × Addr × Str)} (nd : (tbs.map (·.2.1)).Nodup) {t : Addr × Addr × Str} (h1 : t ∈ tbs) : tbs.find? (fun u => decide (u.2.1 = t.2.1)) = some t := by
  induction tbs with
  | nil => cases h1
  | cons u r ih =>
    rw [List.map_cons, List.nodup_cons] at nd
    rw [List.find?_cons]
    rcases List.mem_cons.mp h1 with z | z
    · subst z; simp
    · have ne : u.2.1 ≠ t.2.1 := fun y => nd.1 (List.mem_map.mpr ⟨t, z, y.symm⟩)
      rw [decide_eq_false ne]
      exact ih nd.2 z
/-- what a law is promised: the tables of the code objects that make lambdas -/
def spLawT (tbs : List (Addr × Addr × Str)) : SpD := fun ds M Q _ => ∃ ns, ds = [.scr ns] ∧ ns.length ≤ 63 ∧ (∀ t ∈ tbs, M t.2.1 = some (.tb t.2.2)) ∧ ∀ M', Q (.bl true) M'
theorem law_walkT {l : PySem.W.OpenLaw} {q : Program} {loose : List Str} {XP : (Str → Option Value) → Heap → Prop} {YP : World → Heap → Prop} {d : DefRec} {K : Params → PySem.W.Frag} {x : Str} {st : Stmt} {k : Nat} (hn : l.most = some 63) (hdf : d.params.defaults = [])
    (hY : ∀ (w : World) (h : Heap), YP w h → (K w.params).In h) (hd : d.name = "law") (hr : Room k callerA)
    (hbd : ∀ (kV doc pm : Value) (an : Option Addr) (cdv ct : Value) (u : Value), bindArgs (PySem.W.fnOf "law" "law" (defArgs st) (defBody st) (defScope st) .none kV doc pm an cdv ct) ⟨[u], []⟩ = pure [(x, u)])
    (F : ∀ (w : World) (mg : Str → Option Value) (h : Heap), YP w h → (K w.params).In h → h.Ns mainGlobals mg → ∃ tbs : List (Addr × Addr × Str), (tbs.map (·.2.1)).Nodup ∧ (∀ t ∈ tbs, h.get? t.2.1 = some { cls := .none, data := .fields #[] } ∧ (K w.params).lookup t.2.1 = none ∧ PySem.W.codeHdIn (K w.params) t.1 t.2.1 = true) ∧ TopFn (K w.params) mg "law" st ∧
      ∀ fd, Fun (K w.params) "law" "law" st (ca mg "law") fd → mg "law" = some (.ref (ca mg "law")) → ∀ base : Heap, (∀ t ∈ tbs, LamX.TabB base mg t.1 t.2.1) → FnOk l.prog w (K w.params) mg base (L2.CX l.prog w) k (ca mg "law") fd [x] (spD (K w.params) mg (spLawT tbs))) :
    PySem.W.WalkO q loose XP YP l.row.toRowW d [] (fun f vs => PySem.call f vs) := by
  refine LamX.walk_ofTs (n := 63) (k := k) (x := x) (CX := fun w => L2.CX l.prog w) (K := K) hn (by decide) hdf hr hY ?_ ?_
  · intro w mg fa h Y KX G hmg
    rw [hd] at hmg
    obtain ⟨tbs, nd, ht, ⟨gm, fd, Fu⟩, FF⟩ := F w mg h Y KX G
    have e : ca mg "law" = fa := Value.ref.inj (Option.some.inj (gm.symm.trans hmg))
    have FF := FF fd Fu gm
    rw [e] at Fu FF
    have mem : ∀ p ∈ tbs.map (fun t => (t.1, t.2.1)), ∃ t ∈ tbs, p = (t.1, t.2.1) := fun p hp => by
      obtain ⟨t, h1, h2⟩ := List.mem_map.mp hp
      exact ⟨t, h1, h2.symm⟩
    refine ⟨fd, tbs.map (fun t => (t.1, t.2.1)), spD (K w.params) mg (spLawT tbs), fun p hp => ?_, fun p hp => ?_, fun p hp => ?_, fun s u => ?_, fun H a ns hl hb hH hS => ?_, fun base _ _ TB => FF base fun t ht => TB _ (List.mem_map.mpr ⟨t, ht, rfl⟩)⟩
    · obtain ⟨t, h1, rfl⟩ := mem p hp; exact (ht t h1).1
    · obtain ⟨t, h1, rfl⟩ := mem p hp; exact (ht t h1).2.1
    · obtain ⟨t, h1, rfl⟩ := mem p hp; exact PySem.W.codeHd_of_K KX (ht t h1).2.2
    · obtain ⟨_, _, kV, doc, pm, an, cdv, ct, _, hfd, _, _⟩ := Fu.ex
      rw [hfd]
      exact .of_eq (hbd kV doc pm an cdv ct u)
    · have hT : ∀ t ∈ tbs, H t.2.1 = some (.tbl #[]) := fun t h1 => hH _ (List.mem_map.mpr ⟨t, h1, rfl⟩)
      have fnd := fun t h1 => find_tb nd (t := t) h1
      refine ⟨fun _ => none, fun a => if a ∈ tbs.map (·.2.1) then none else H a, [.scr ns], fun a => (tbs.find? fun u => decide (u.2.1 = a)).map fun t => .tb t.2.2, fun d _ => d = .bl true, fun _ _ _ => False, ⟨fun b o z => ?_, fun p c z => ?_, fun p o z => by cases z⟩, .cons (.scr ?_) .nil, ⟨ns, rfl, hl, fun t h1 => by dsimp only; rw [fnd t h1]; rfl, fun _ => rfl⟩, ?_, fun _ _ _ _ _ _ _ z => z.elim⟩
      · by_cases hb : b ∈ tbs.map (·.2.1)
        · rw [if_pos hb] at z; cases z
        · rw [if_neg hb] at z; exact z
      · cases y : tbs.find? (fun u => decide (u.2.1 = p)) with
        | none => rw [y] at z; cases z
        | some t =>
          rw [y] at z; cases z
          have h1 := List.mem_of_find?_eq_some y
          have h2 : t.2.1 = p := by have := List.find?_some y; simpa using this
          subst h2
          refine ⟨if_pos (List.mem_map.mpr ⟨t, h1, rfl⟩), #[], hT t h1, True.intro, fun pos cv hc => ?_⟩
          have z : codeAmong pos [] = some cv := hc
          simp [codeAmong] at z
      · rcases hS with z | z
        · refine .inl ?_
          have na : a ∉ tbs.map (·.2.1) := fun y => by
            obtain ⟨t, h1, rfl⟩ := List.mem_map.mp y
            have := hT t h1
            rcases z with z | ⟨o, z⟩ <;> rw [this] at z <;> cases z
          rcases z with z | ⟨o, z⟩
          · exact .inl (by show (if _ then _ else _) = _; rw [if_neg na]; exact z)
          · exact .inr ⟨o, by show (if _ then _ else _) = _; rw [if_neg na]; exact z⟩
        · exact .inr z
      · rintro v H' Hb' d M' rfl _ _ r
        exact rep_bl r
  · rintro w H s e s' ⟨_, _, _, _, _, _, _, _, _, _, _, _, z⟩
    exact z
end L3
/-! ### 72. Lambdas in a def's walk -/
namespace L3
open PySem PySem.Spec PyProof.Rows L2 L3X
def lamFB (sc scope : Scope) : Bool := scope.names.all fun y => !decide (y.2 = .free) || (decide (sc.names.lookup y.1 = some .cell) || decide (sc.names.lookup y.1 = some .free))
theorem lamF_of {sc scope : Scope} (h : lamFB sc scope = true) : ∀ y ∈ scope.names, y.2 = .free → sc.names.lookup y.1 = some .cell ∨ sc.names.lookup y.1 = some .free := fun y hy e => by
  unfold lamFB at h
  have h := List.all_eq_true.mp h y hy
  simp only [Bool.or_eq_true, Bool.not_eq_true', decide_eq_true_eq, decide_eq_false_iff_not] at h
  exact h.elim (fun z => absurd e z) id
def lamOkB (N nm : List Str) (sc scope : Scope) (glb : List Str) : Bool := lamNB N nm sc scope && glb.all fun x => decide (scope.names.lookup x = some .globalImplicit) && okN x
/-- a lambda's name, as its maker's is told -/
def lamQ (qual : Str) : Str := qual ++ ".<locals>." ++ "<lambda>"
section
variable {X X' : Cx} {w : Wi} {Γ : Ga} {M : Mm} {Q : D → Mm → Prop} {e0 : Expr} {pos : Pos} {params : Arguments} {body : Expr} {scope sc : Scope} {T : Addr} {qual x : Str} {N glb bts : List Str} {L : Lam} {k : Nat}
theorem de_lamA (Mk : MakesL X qual T) (hsc : X.env.scope = sc) (chk : lamFB sc scope = true) (hdf : params.defaults = []) (hkd : params.kw_defaults = []) (hM : M T = some (.tb (lamQ qual)))
    (q : Q (.fn ⟨lamQ qual, params, [], body, scope, cloFrom X.env.cells scope.names []⟩) M) : DE X w (.Lambda params body scope pos) Γ M Q := by
  have e : X.env.qual ++ "<lambda>" = lamQ qual := by rw [Mk.ql]; rfl
  exact de_lam0 Mk.tb hdf hkd (by rw [hsc]; exact lamF_of chk) (by rw [e]; exact hM) (by rw [e]; exact q)
theorem de_lamB (x : Str) (Mk : MakesL X qual T) (hsc : X.env.scope = sc) (chk : lamFB sc scope = true) (hdf : params.defaults = [e0]) (hkd : params.kw_defaults = [])
    (h : DE X w e0 Γ M fun _ M1 => M1 T = some (.tb (lamQ qual)) ∧ Q (.fn ⟨lamQ qual, params, [x], body, scope, cloFrom X.env.cells scope.names []⟩) M1) : DE X w (.Lambda params body scope pos) Γ M Q := by
  have e : X.env.qual ++ "<lambda>" = lamQ qual := by rw [Mk.ql]; rfl
  exact de_lam1 Mk.tb hdf hkd (by rw [hsc]; exact lamF_of chk) (by rw [e]; exact h)
theorem lamOk_of {nm : List Str} (hN : X.N = N) (hsc : X.env.scope = sc) (chk : lamOkB N nm sc scope glb = true) (b : BindsL ⟨lamQ qual, params, nm, body, scope, cloFrom X.env.cells scope.names []⟩) : LamOk X ⟨lamQ qual, params, nm, body, scope, cloFrom X.env.cells scope.names []⟩ glb := by
  obtain ⟨h1, h2⟩ := Bool.and_eq_true_iff.mp chk
  subst hN hsc
  refine ⟨lamN_by h1, rfl, b, fun x hx => ?_⟩
  have := List.all_eq_true.mp h2 x hx
  simpa using this
/-- the contracts in a lambda's context -/
theorem LamIn.fnD {lv : Nat} {y : Str} {ps : List Str} {KW : List KwF} {S : SpD} (l : LamIn X X' L k glb bts) (C : FnD X.prog X.w X.K X.mg X.base lv y ps KW S) : FnD X'.prog X'.w X'.K X'.mg X'.base lv y ps KW S := by
  rw [l.prog, l.w, l.K, l.mg, l.base]; exact C
theorem LamIn.mthD {lv : Nat} {c m : Str} {ps : List Str} {KW : List KwF} {S : SpD} (l : LamIn X X' L k glb bts) (C : MthD X.prog X.w X.K X.mg X.base lv c m ps KW S) : MthD X'.prog X'.w X'.K X'.mg X'.base lv c m ps KW S := by
  rw [l.prog, l.w, l.K, l.mg, l.base]; exact C
theorem LamIn.iniD {lv : Nat} {c : Str} {ps : List Str} {KW : List KwF} {S : SpD} (l : LamIn X X' L k glb bts) (C : IniD X.prog X.w X.K X.mg X.base lv c ps KW S) : IniD X'.prog X'.w X'.K X'.mg X'.base lv c ps KW S := by
  rw [l.prog, l.w, l.K, l.mg, l.base]; exact C
theorem LamIn.prpD {lv : Nat} {c m : Str} {S : SpD} (l : LamIn X X' L k glb bts) (C : PrpD X.prog X.w X.K X.mg X.base lv c m S) : PrpD X'.prog X'.w X'.K X'.mg X'.base lv c m S := by
  rw [l.prog, l.w, l.K, l.mg, l.base]; exact C
theorem LamIn.clsD {c : Str} {fl : List Str} (l : LamIn X X' L k glb bts) (C : ClsD X.K X.mg c fl) : ClsD X'.K X'.mg c fl := by
  rw [l.K, l.mg]; exact C
theorem LamIn.gc {c : Str} {d : D} (l : LamIn X X' L k glb bts) (C : Gc X.mg c d) : Gc X'.mg c d := by
  rw [l.mg]; exact C
end
end L3
/-! ### 73. The error classes: their facts -/
namespace L3
open PySem PySem.Spec PyProof.Rows L2 L3X
abbrev supCall (p0 p1 p2 p3 p4 : Pos) (j : Nat) (tx : Str) : Expr := .Call (.Attribute (.Call (.Name "super" p0) [] [] p1) "__init__" p2) [.Constant (.str tx) j p3] [] p4
section
variable {P : Program} {W : World} {K : PySem.W.Frag} {mg : Str → Option Value} {base : Heap} {c tx f p qual : Str} {fI D cc cda : Addr} {k j j2 : Nat} {params : Arguments} {scope : Scope} {kV doc pm ct oc : Value} {an od : Option Addr} {osl : Array (Option Value)} {ar : Arg} {p0 p1 p2 p3 p4 p5 r0 r1 r2 r3 r4 r5 r6 r7 : Pos}
theorem errD1 {pl : Sem Bool} (gm : mg c = some (.ref (ca mg c))) (ox : OexC K (ca mg c)) (nfc : PySem.W.findIn K (.ref (ca mg c)) "code" = some none) (nff : PySem.W.findIn K (.ref (ca mg c)) f = some none) (hi : PySem.W.findIn K (.ref (ca mg c)) "__init__" = some (some (.ref fI))) (ti : PySem.W.typeIn K (.ref fI) = some (.type "function"))
    (SC : SupC P K (ca mg c) D cc cda "ValueError" "ValueError.__init__" "ValueError.__new__") (S : ScopeS [("self" : Str), p] scope) (mgs : mg "super" = none) (FB : ∃ bmB, ExcBaseFacts "ValueError" "ValueError.__new__" "ValueError.__init__" bmB) (KF : PySem.W.KxsFacts "ValueError" "ValueError.__init__")
    (hp : (params.posonlyargs ++ params.args).head? = some ar) (hps : ar.arg = ("self" : Str)) (b1 : params.posonlyargs = []) (b2 : params.args.map (·.arg) = [("self" : Str), p]) (b3 : params.kwonlyargs = []) (b4 : params.vararg = none) (b5 : params.kwarg = none) (okp : okN p = true)
    (he : ∀ en : Env, eval (supCall p0 p1 p2 p3 p4 j tx) en = (do
      let ov ← attributeBase (.Call (.Name "super" p0) [] [] p1) "__init__" en (eval (.Call (.Name "super" p0) [] [] p1) en)
      standAt p2.atName
      let (f, first) ← holding [ov] (getMethod ov "__init__" pl)
      callWith p4 f first (backTo p4 (starEach [.Constant (.str tx) j p3] en)) []))
    (lk : K.lookup fI = some ⟨oc, od, .func (PySem.W.ksFn "__init__" qual params [.Expr (supCall p0 p1 p2 p3 p4 j tx) p5, .Assign [.Attribute (.Name "self" r0) "code" r1] (.Constant (.str tx) j2 r2) r3, .Assign [.Attribute (.Name "self" r4) f r5] (.Name p r6) r7] scope .none kV doc pm an (.ref cda) ct cc), osl⟩) (hcd : PySem.W.codeIn K (.ref cda) qual = true) :
    ErrD P W K mg base (k + 1) c 1 [(f, .inl 0), ("code", .inr tx)] := by
  obtain ⟨bmB, FB⟩ := FB
  have nd : ([("self" : Str), p] : List Str).Nodup := S.nd
  refine ⟨gm, ox, fun q hq j e => ?_, fun q hq => ?_, fI, _, [("self" : Str), p], D, cc, cda, hi, ti, fn_exc (CX := L2.CX P W) (mg := mg) S FB KF lk hcd hp (by rw [hps]; rfl) mgs he (fun vs H Q E ⟨a, xs, e, hl, _⟩ => by rw [e]; simp [hl]) (fun vs H Q E ⟨a, xs, e, hl, ha, T, _⟩ => ⟨a, _, by rw [e]; rfl, ha, T⟩) (fun A outer s H vs Q E hr hsp => ?_), ?_, SC⟩
  · rcases List.mem_cons.mp hq with z | z
    · subst z; cases e; exact Nat.zero_lt_one
    · rw [List.mem_singleton] at z; subst z; cases e
  · rcases List.mem_cons.mp hq with z | z
    · subst z; exact nff
    · rw [List.mem_singleton] at z; subst z; exact nfc
  · obtain ⟨a, xs, rfl, hl, ha, T, ox', nf, hq⟩ := hsp
    obtain ⟨v, rfl⟩ : ∃ v, xs = [v] := List.length_eq_one_iff.mp hl
    have vS : Vis scope ("self" : Str) := .inl (S.par _ (by simp))
    have vP : Vis scope p := .inl (S.par _ (by simp))
    have eS : PE (cxS (L2.CX P W) P W K mg base [("self" : Str), p] qual scope fI cda cc A outer s H E) (.Name "self" r0) _ := pe_var (i := 0) rfl vS (by decide) (by decide)
    have eS2 : PE (cxS (L2.CX P W) P W K mg base [("self" : Str), p] qual scope fI cda cc A outer s H E) (.Name "self" r4) _ := pe_var (i := 0) rfl vS (by decide) (by decide)
    have eP : PE (cxS (L2.CX P W) P W K mg base [("self" : Str), p] qual scope fI cda cc A outer s H E) (.Name p r6) _ := pe_var (i := 1) rfl vP (okN_d okp) (okN_c okp)
    refine ⟨_, pss_cons (ps_ost eS pe_str) (pss_one (ps_ost eS2 eP)), ?_⟩
    refine ⟨V.ref a, rfl, a, ca mg c, rfl, ox, nfc, .inl ⟨ha, fun dx hd1 hd2 => ?_⟩⟩
    refine ⟨v, rfl, V.ref a, rfl, a, ca mg c, rfl, ox, nff, .inr ⟨dx, [("code", .str tx)], upd_same, by rw [upd_ne hd2, upd_same], by simp, ?_⟩⟩
    have h := hq dx hd1 hd2
    have e : upd (upd (upd H dx (exd dx [(("code" : Str), V.str tx)])) a (exo a (ca mg c) (some dx))) dx (exd dx ((f, v) :: [("code", V.str tx)])) = upd (upd H dx (exd dx (fldsV [(f, .inl 0), ("code", .inr tx)] [v]))) a (exo a (ca mg c) (some dx)) := by
      funext b
      by_cases z1 : b = dx
      · subst z1; rw [upd_same, upd_ne hd2, upd_same]; rfl
      · rw [upd_ne z1]
        by_cases z2 : b = a
        · subst z2; rw [upd_same, upd_same]
        · rw [upd_ne z2, upd_ne z2, upd_ne z1, upd_ne z1]
    show Q .non (upd _ dx _)
    rw [e]
    exact h
  · exact fun s us hK hl => by rw [List.append_nil]; exact .of_eq (bind_pos (fd := PySem.W.ksFn "__init__" qual params _ scope .none kV doc pm an (.ref cda) ct cc) b1 b2 b3 b4 b5 rfl nd us (by simpa using hl))
theorem errD0 {pl : Sem Bool} (gm : mg c = some (.ref (ca mg c))) (ox : OexC K (ca mg c)) (nfc : PySem.W.findIn K (.ref (ca mg c)) "code" = some none) (hi : PySem.W.findIn K (.ref (ca mg c)) "__init__" = some (some (.ref fI))) (ti : PySem.W.typeIn K (.ref fI) = some (.type "function"))
    (SC : SupC P K (ca mg c) D cc cda "ValueError" "ValueError.__init__" "ValueError.__new__") (S : ScopeS [("self" : Str)] scope) (mgs : mg "super" = none) (FB : ∃ bmB, ExcBaseFacts "ValueError" "ValueError.__new__" "ValueError.__init__" bmB) (KF : PySem.W.KxsFacts "ValueError" "ValueError.__init__")
    (hp : (params.posonlyargs ++ params.args).head? = some ar) (hps : ar.arg = ("self" : Str)) (b1 : params.posonlyargs = []) (b2 : params.args.map (·.arg) = [("self" : Str)]) (b3 : params.kwonlyargs = []) (b4 : params.vararg = none) (b5 : params.kwarg = none)
    (he : ∀ en : Env, eval (supCall p0 p1 p2 p3 p4 j tx) en = (do
      let ov ← attributeBase (.Call (.Name "super" p0) [] [] p1) "__init__" en (eval (.Call (.Name "super" p0) [] [] p1) en)
      standAt p2.atName
      let (f, first) ← holding [ov] (getMethod ov "__init__" pl)
      callWith p4 f first (backTo p4 (starEach [.Constant (.str tx) j p3] en)) []))
    (lk : K.lookup fI = some ⟨oc, od, .func (PySem.W.ksFn "__init__" qual params [.Expr (supCall p0 p1 p2 p3 p4 j tx) p5, .Assign [.Attribute (.Name "self" r0) "code" r1] (.Constant (.str tx) j2 r2) r3] scope .none kV doc pm an (.ref cda) ct cc), osl⟩) (hcd : PySem.W.codeIn K (.ref cda) qual = true) :
    ErrD P W K mg base (k + 1) c 0 [("code", .inr tx)] := by
  obtain ⟨bmB, FB⟩ := FB
  have nd : ([("self" : Str)] : List Str).Nodup := S.nd
  refine ⟨gm, ox, fun q hq j e => ?_, fun q hq => ?_, fI, _, [("self" : Str)], D, cc, cda, hi, ti, fn_exc (CX := L2.CX P W) (mg := mg) S FB KF lk hcd hp (by rw [hps]; rfl) mgs he (fun vs H Q E ⟨a, xs, e, hl, _⟩ => by rw [e]; simp [hl]) (fun vs H Q E ⟨a, xs, e, hl, ha, T, _⟩ => ⟨a, _, by rw [e]; rfl, ha, T⟩) (fun A outer s H vs Q E hr hsp => ?_), ?_, SC⟩
  · rw [List.mem_singleton] at hq; subst hq; cases e
  · rw [List.mem_singleton] at hq; subst hq; exact nfc
  · obtain ⟨a, xs, rfl, hl, ha, T, ox', nf, hq⟩ := hsp
    obtain rfl : xs = [] := List.length_eq_zero_iff.mp hl
    have vS : Vis scope ("self" : Str) := .inl (S.par _ (by simp))
    have eS : PE (cxS (L2.CX P W) P W K mg base [("self" : Str)] qual scope fI cda cc A outer s H E) (.Name "self" r0) _ := pe_var (i := 0) rfl vS (by decide) (by decide)
    refine ⟨_, pss_one (ps_ost eS pe_str), ?_⟩
    exact ⟨V.ref a, rfl, a, ca mg c, rfl, ox, nfc, .inl ⟨ha, fun dx hd1 hd2 => hq dx hd1 hd2⟩⟩
  · exact fun s us hK hl => by rw [List.append_nil]; exact .of_eq (bind_pos (fd := PySem.W.ksFn "__init__" qual params _ scope .none kV doc pm an (.ref cda) ct cc) b1 b2 b3 b4 b5 rfl nd us (by simpa using hl))
end
end L3
/-! ### 74. The error classes' facts from the head's -/
namespace L3
open PySem PySem.Spec PyProof.Rows L2 L3X
/-- what the head tells of an error class over ValueError and its __init__ -/
structure ErrK (P : Program) (K : PySem.W.Frag) (C fI D cc cda : Addr) (st : Stmt) : Prop where
  cls : ∃ nm q N bs bm sn sub ab col dd k0 k1 k2 k3 k5, K.lookup C = some (PySem.excClassObj nm q C N bs bm true sn sub ab col dd k0 k1 k2 k3 k5 "ValueError.__new__") ∧ PySem.HandSPX.refsVE bm = true
  sa : PySem.W.findIn K (.ref C) "__setattr__" = some (some (.builtin "object.__setattr__"))
  exC : PySem.W.subIn K (.ref C) (.type "BaseException") = some true
  tyC : PySem.W.typeIn K (.ref C) = some (.type "type")
  kC : PySem.W.keepIn K (.ref C) = true
  nfc : PySem.W.findIn K (.ref C) "code" = some none
  hi : PySem.W.findIn K (.ref C) "__init__" = some (some (.ref fI))
  ti : PySem.W.typeIn K (.ref fI) = some (.type "function")
  lk : ∃ oc od qual kV doc pm an ct osl, K.lookup fI = some ⟨oc, od, .func (PySem.W.ksFn "__init__" qual (defArgs st) (defBody st) (defScope st) .none kV doc pm an (.ref cda) ct cc), osl⟩ ∧ PySem.W.codeIn K (.ref cda) qual = true
  cell : ∃ cl cld csl, K.lookup cc = some ⟨cl, cld, .cell (some (.ref D)), csl⟩
  code : ∃ ccl cdd vs ccs file tf, K.lookup cda = some ⟨ccl, cdd, .fields vs, ccs⟩ ∧ vs[2]? = some (.str file tf) ∧ ((P.main.file : Str) == file) = true
  clD : ∃ cd, PySem.W.clsIn K D = some cd
  sub : PySem.W.mroIn K C (.ref D) = some true
  nosuper : PySem.W.nsIn K mainGlobals "super" = some none
  noname : (P.main.scope.names.lookup ("super" : Str)).isSome = false
  up : PySem.W.ks_superIn K C D "__init__" = some (some (.builtin "ValueError.__init__"))
  subB : PySem.W.subIn K (.ref C) (.type "ValueError") = some true
  opq : PySem.W.nsIn K cStatics "thirdparty.any" = some none
section
variable {P : Program} {W : World} {K : PySem.W.Frag} {mg : Str → Option Value} {base h : Heap} {c tx f p : Str} {C fI D cc cda : Addr} {st : Stmt} {j j2 : Nat} {p0 p1 p2 p3 p4 p5 r0 r1 r2 r3 r4 r5 r6 r7 : Pos}
theorem ErrK.ox (E : ErrK P K C fI D cc cda st) : OexC K C := ⟨E.cls, E.sa, E.exC, E.tyC, E.kC⟩
theorem ErrK.sup (E : ErrK P K C fI D cc cda st) : SupC P K C D cc cda "ValueError" "ValueError.__init__" "ValueError.__new__" := by
  obtain ⟨nm, q, N, bs, bm, sn, sub, ab, col, dd, k0, k1, k2, k3, k5, h1, _⟩ := E.cls
  exact ⟨⟨nm, q, N, bs, bm, sn, sub, ab, col, dd, k0, k1, k2, k3, k5, h1⟩, E.cell, E.code, E.clD, E.sub, E.nosuper, E.noname, E.up, E.subB, E.opq⟩
theorem errD1_mk {pl : Sem Bool} (X : K.In h) (G : h.Ns mainGlobals mg) (a : PySem.W.nsIn K mainGlobals c = some (some (.ref C))) (E : ErrK P K C fI D cc cda st) (nff : PySem.W.findIn K (.ref C) f = some none) (sc : scopeSB [("self" : Str), p] (defScope st) = true) (okp : okN p = true)
    (hb : defBody st = [.Expr (supCall p0 p1 p2 p3 p4 j tx) p5, .Assign [.Attribute (.Name "self" r0) "code" r1] (.Constant (.str tx) j2 r2) r3, .Assign [.Attribute (.Name "self" r4) f r5] (.Name p r6) r7])
    (ha : ∃ a1 a2 : Arg, (defArgs st).posonlyargs = [] ∧ (defArgs st).args = [a1, a2] ∧ a1.arg = ("self" : Str) ∧ a2.arg = p ∧ (defArgs st).kwonlyargs = [] ∧ (defArgs st).vararg = none ∧ (defArgs st).kwarg = none)
    (he : ∀ en : Env, eval (supCall p0 p1 p2 p3 p4 j tx) en = (do
      let ov ← attributeBase (.Call (.Name "super" p0) [] [] p1) "__init__" en (eval (.Call (.Name "super" p0) [] [] p1) en)
      standAt p2.atName
      let (f, first) ← holding [ov] (getMethod ov "__init__" pl)
      callWith p4 f first (backTo p4 (starEach [.Constant (.str tx) j p3] en)) [])) : ErrD P W K mg base 1 c 1 [(f, .inl 0), ("code", .inr tx)] := by
  obtain ⟨g, e⟩ := ca_of X G a
  subst e
  obtain ⟨oc, od, qual, kV, doc, pm, an, ct, osl, lk, hcd⟩ := E.lk
  obtain ⟨a1, a2, b1, b2, b3, b4, b5, b6, b7⟩ := ha
  rw [hb] at lk
  exact errD1 g E.ox E.nfc nff E.hi E.ti E.sup (scopeS_of sc) (PySem.W.mg_none_of X G E.nosuper) ⟨_, F.excBase_ValueError⟩ PySem.W.kxs_ValueError (by rw [b1, b2]; rfl) b3 b1 (by rw [b2]; simp [b3, b4]) b5 b6 b7 okp he lk hcd
theorem errD0_mk {pl : Sem Bool} (X : K.In h) (G : h.Ns mainGlobals mg) (a : PySem.W.nsIn K mainGlobals c = some (some (.ref C))) (E : ErrK P K C fI D cc cda st) (sc : scopeSB [("self" : Str)] (defScope st) = true)
    (hb : defBody st = [.Expr (supCall p0 p1 p2 p3 p4 j tx) p5, .Assign [.Attribute (.Name "self" r0) "code" r1] (.Constant (.str tx) j2 r2) r3])
    (ha : ∃ a1 : Arg, (defArgs st).posonlyargs = [] ∧ (defArgs st).args = [a1] ∧ a1.arg = ("self" : Str) ∧ (defArgs st).kwonlyargs = [] ∧ (defArgs st).vararg = none ∧ (defArgs st).kwarg = none)
    (he : ∀ en : Env, eval (supCall p0 p1 p2 p3 p4 j tx) en = (do
      let ov ← attributeBase (.Call (.Name "super" p0) [] [] p1) "__init__" en (eval (.Call (.Name "super" p0) [] [] p1) en)
      standAt p2.atName
      let (f, first) ← holding [ov] (getMethod ov "__init__" pl)
      callWith p4 f first (backTo p4 (starEach [.Constant (.str tx) j p3] en)) [])) : ErrD P W K mg base 1 c 0 [("code", .inr tx)] := by
  obtain ⟨g, e⟩ := ca_of X G a
  subst e
  obtain ⟨oc, od, qual, kV, doc, pm, an, ct, osl, lk, hcd⟩ := E.lk
  obtain ⟨a1, b1, b2, b3, b5, b6, b7⟩ := ha
  rw [hb] at lk
  exact errD0 g E.ox E.nfc E.hi E.ti E.sup (scopeS_of sc) (PySem.W.mg_none_of X G E.nosuper) ⟨_, F.excBase_ValueError⟩ PySem.W.kxs_ValueError (by rw [b1, b2]; rfl) b3 b1 (by rw [b2]; simp [b3]) b5 b6 b7 he lk hcd
end
end L3
/-! ### 75. The parts of a spec as functions of its album -/
namespace L3
open PySem PySem.Spec PyProof.Rows L2
theorem pw_uniq {α : Type} {r : α → α → Prop} (asym : ∀ x y, r x y → r y x → False) : ∀ {l l' : List α}, l.Pairwise r → l'.Pairwise r → (∀ x, x ∈ l ↔ x ∈ l') → l = l'
  | [], [], _, _, _ => rfl
  | [], y :: l', _, _, h => by have := (h y).mpr List.mem_cons_self; cases this
  | x :: l, [], _, _, h => by have := (h x).mp List.mem_cons_self; cases this
  | x :: l, y :: l', a, b, h => by
    rw [List.pairwise_cons] at a b
    have irr : ∀ z, ¬ r z z := fun z k => asym z z k k
    have e : x = y := by
      rcases List.mem_cons.mp ((h x).mp List.mem_cons_self) with z | z
      · exact z
      · rcases List.mem_cons.mp ((h y).mpr List.mem_cons_self) with w | w
        · exact w.symm
        · exact (asym _ _ (a.1 y w) (b.1 x z)).elim
    subst e
    rw [pw_uniq asym a.2 b.2 fun z => ⟨fun m => ?_, fun m => ?_⟩]
    · rcases List.mem_cons.mp ((h z).mp (List.mem_cons_of_mem _ m)) with w | w
      · subst w; exact (irr _ (a.1 _ m)).elim
      · exact w
    · rcases List.mem_cons.mp ((h z).mpr (List.mem_cons_of_mem _ m)) with w | w
      · subst w; exact (irr _ (b.1 _ m)).elim
      · exact w
theorem ltS_asym (x y : Str) (h : ltS x y) (g : ltS y x) : False := List.lt_asymm h g
theorem ltCps_iff : ∀ {a b : List Nat}, ltCps a b = true ↔ a < b
  | a, b => by
    induction a generalizing b with
    | nil => cases b <;> simp [ltCps]
    | cons x a ih =>
      cases b with
      | nil => simp [ltCps]
      | cons y b =>
        rw [List.cons_lt_cons_iff, ← ih]
        simp [ltCps]
theorem str_ext {x y : Str} (h : x.cps.toList = y.cps.toList) : x = y := by
  cases x; cases y
  simp only at h
  congr
  exact Array.toList_inj.mp h
theorem ltS_of {x y : Str} (h : ltCps y.cps.toList x.cps.toList = false) (n : x ≠ y) : ltS x y := by
  have h' : ¬ (y.cps.toList < x.cps.toList) := fun z => by rw [ltCps_iff.mpr z] at h; cases h
  rcases Std.lt_trichotomy x.cps.toList y.cps.toList with z | z | z
  · exact z
  · exact absurd (str_ext z) n
  · exact absurd z h'
theorem strict_risS : ∀ {l : List Str} {p : Str}, risingS p l = true → (p :: l).Nodup → (p :: l).Pairwise ltS
  | [], p, _, _ => by simp
  | x :: r, p, h, n => by
    have h : (!ltCps x.cps.toList p.cps.toList && risingS x r) = true := h
    rw [Bool.and_eq_true, Bool.not_eq_true'] at h
    rw [List.nodup_cons] at n
    have z := strict_risS h.2 n.2
    have px : ltS p x := ltS_of h.1 fun e => n.1 (by rw [e]; exact List.mem_cons_self)
    rw [List.pairwise_cons]
    refine ⟨fun y hy => ?_, z⟩
    rcases List.mem_cons.mp hy with e | hy
    · rw [e]; exact px
    · exact List.lt_trans px ((List.pairwise_cons.mp z).1 y hy)
theorem strict_S {l : List Str} (h : strsS l = true) (n : l.Nodup) : l.Pairwise ltS := by
  cases l with
  | nil => exact .nil
  | cons x l => exact strict_risS h n
section
variable {a : Alb} {i j : Int}
def partC (a : Alb) (i : Int) : Part := (clsA a i, nameL a i)
theorem names_so (A : AlbOk a) (h0 : 0 ≤ i) (h1 : i < a.many) : (nameL a i).Pairwise ltS := strict_S (names_is A h0 h1).1.so (names_is A h0 h1).1.nd
theorem mem_cls (A : AlbOk a) (h0 : 0 ≤ i) (h1 : i < a.many) : j ∈ clsA a i ↔ Conn (ties a.says) (.inl i) (.inl j) := (clsA_is A h0 h1).cn j
theorem self_cls (A : AlbOk a) (h0 : 0 ≤ i) (h1 : i < a.many) : i ∈ clsA a i := (mem_cls A h0 h1).mpr .rfl
theorem mem_cls' (A : AlbOk a) : j ∈ clsA a i ↔ (0 ≤ j ∧ j < a.many) ∧ lead a i = lead a j := by
  unfold clsA
  rw [List.mem_filter, mem_picsA, decide_eq_true_eq]
theorem part_is (A : AlbOk a) {ps : List Part} (P : Pts a.many (ties a.says) ps) {p : Part} (hp : p ∈ ps) (hi : i ∈ p.1) : p = partC a i := by
  obtain ⟨h0, h1⟩ := P.rg p hp i hi
  have c := P.cn p hp i hi
  refine Prod.ext ?_ ?_
  · exact strict_uniq (P.so p hp) (clsA_is A h0 h1).so fun j => (c (.inl j)).trans (mem_cls A h0 h1).symm
  · exact pw_uniq ltS_asym (P.sn p hp) (names_so A h0 h1) fun s => (c (.inr s)).trans ((names_is A h0 h1).1.cn s).symm
theorem cls_cong (h : lead a i = lead a j) : clsA a i = clsA a j := by unfold clsA; rw [h]
theorem name_cong (A : AlbOk a) (h0 : 0 ≤ i) (h1 : i < a.many) (g0 : 0 ≤ j) (g1 : j < a.many) (h : lead a i = lead a j) : nameL a i = nameL a j := by
  have c := (lead_iff A h0 h1 g0 g1).mp h
  refine pw_uniq ltS_asym (names_so A h0 h1) (names_so A g0 g1) fun s => ?_
  rw [(names_is A h0 h1).1.cn, (names_is A g0 g1).1.cn]
  exact ⟨fun z => c.symm.trans z, fun z => c.trans z⟩
theorem lead_lead (A : AlbOk a) (h0 : 0 ≤ i) (h1 : i < a.many) : lead a (lead a i) = lead a i := by
  have l := lead_is A h0 h1
  exact ((lead_iff A h0 h1 l.lo l.hi).mpr l.cn).symm
theorem lead_mem (A : AlbOk a) (h0 : 0 ≤ i) (h1 : i < a.many) : lead a i ∈ leadsA a := mem_leads.mpr ⟨⟨(lead_is A h0 h1).lo, (lead_is A h0 h1).hi⟩, lead_lead A h0 h1⟩
theorem part_cong (A : AlbOk a) (h0 : 0 ≤ i) (h1 : i < a.many) (g0 : 0 ≤ j) (g1 : j < a.many) (h : lead a i = lead a j) : partC a i = partC a j := Prod.ext (cls_cong h) (name_cong A h0 h1 g0 g1 h)
theorem part_eq (A : AlbOk a) (h0 : 0 ≤ i) (h1 : i < a.many) (g0 : 0 ≤ j) (g1 : j < a.many) : partC a i = partC a j ↔ lead a i = lead a j := by
  refine ⟨fun h => ?_, part_cong A h0 h1 g0 g1⟩
  have z : i ∈ clsA a j := by rw [← show clsA a i = clsA a j from congrArg Prod.fst h]; exact self_cls A h0 h1
  exact ((mem_cls' A).mp z).2.symm
theorem parts_canon (A : AlbOk a) {ps : List Part} (P : Pts a.many (ties a.says) ps) (hs : ps.Pairwise fun p q => hdP p < hdP q) : ps = (leadsA a).map (partC a) := by
  have key : ∀ p ∈ ps, p = partC a (hdP p) ∧ (0 ≤ hdP p ∧ hdP p < a.many) ∧ lead a (hdP p) = hdP p := fun p hp => by
    have hm := head_mem (P.ne p hp)
    obtain ⟨h0, h1⟩ := P.rg p hp _ hm
    refine ⟨part_is A P hp hm, ⟨h0, h1⟩, ?_⟩
    have l := lead_is A h0 h1
    have hl : lead a (hdP p) ∈ p.1 := (P.cn p hp _ hm (.inl _)).mpr l.cn
    have hle := l.le (hdP p) .rfl
    have : hdP p ≤ lead a (hdP p) := by
      have so := P.so p hp
      unfold hdP at hl ⊢
      cases hp1 : p.1 with
      | nil => exact absurd hp1 (P.ne p hp)
      | cons x r =>
        rw [hp1] at hl so
        simp only [List.headD_cons] at hl ⊢
        rcases List.mem_cons.mp hl with z | z
        · omega
        · exact Int.le_of_lt ((List.pairwise_cons.mp so).1 _ z)
    omega
  have e : ps.map hdP = leadsA a := by
    refine strict_uniq (List.pairwise_map.mpr hs) (picsA_so.filter _) fun x => ?_
    rw [List.mem_map, mem_leads]
    constructor
    · rintro ⟨p, hp, rfl⟩; exact (key p hp).2
    · rintro ⟨⟨h0, h1⟩, hl⟩
      obtain ⟨p, hp, hx⟩ := P.cv x h0 h1
      refine ⟨p, hp, ?_⟩
      obtain ⟨k1, ⟨k2, k3⟩, k4⟩ := key p hp
      have c := (P.cn p hp x hx (.inl (hdP p))).mp (head_mem (P.ne p hp))
      have := (lead_iff A h0 h1 k2 k3).mpr c
      omega
  rw [← e, List.map_map]
  conv => lhs; rw [← List.map_id ps]
  exact List.map_congr_left fun p hp => (key p hp).1
/-- whether different classes are barred -/
def bars0 (a : Alb) (i j : Int) : Bool := decide (lead a i ∈ a.sing) || decide (lead a j ∈ a.sing) || decide ((lead a i, lead a j) ∈ barsOf (lead a) a.says) || (!decide (nameL a i = []) && !decide (nameL a j = []))
theorem bar_eq (A : AlbOk a) (h0 : 0 ≤ i) (h1 : i < a.many) (g0 : 0 ≤ j) (g1 : j < a.many) : barA a i j = (decide (partC a i ≠ partC a j) && bars0 a i j) := by
  have l := lead_is A h0 h1
  have k := lead_is A g0 g1
  unfold barA bars0
  rw [name_cong A h0 h1 l.lo l.hi (lead_lead A h0 h1).symm, name_cong A g0 g1 k.lo k.hi (lead_lead A g0 g1).symm]
  congr 1
  exact decide_eq_decide.mpr (not_congr (part_eq A h0 h1 g0 g1).symm)
theorem bars0_T (h : lead a i ∈ a.sing ∨ lead a j ∈ a.sing ∨ (nameL a i ≠ [] ∧ nameL a j ≠ [])) : bars0 a i j = true := by
  unfold bars0
  rcases h with h | h | ⟨h, g⟩ <;> simp [*]
theorem bars0_F (h : ¬ lead a i ∈ a.sing) (g : ¬ lead a j ∈ a.sing) (n : nameL a i = [] ∨ nameL a j = []) : bars0 a i j = decide ((lead a i, lead a j) ∈ barsOf (lead a) a.says) := by
  unfold bars0
  rcases n with n | n <;> simp [*]
theorem single_eq (A : AlbOk a) (h0 : 0 ≤ i) (h1 : i < a.many) : (!((a.says.filter (nobIn (clsA a i))).map Say.d).isEmpty) = decide (lead a i ∈ a.sing) := by
  by_cases h : lead a i ∈ a.sing
  · rw [decide_eq_true h]
    obtain ⟨k, hk, e⟩ := (A.sm _).mp h
    obtain ⟨k0, k1⟩ := A.s.ok _ hk
    cases z : ((a.says.filter (nobIn (clsA a i))).map Say.d).isEmpty with
    | false => rfl
    | true => exact absurd ((mem_cls' A).mpr ⟨⟨k0, k1⟩, e.symm⟩) (nobIn_iff.mp z k hk)
  · rw [decide_eq_false h]
    have z : ((a.says.filter (nobIn (clsA a i))).map Say.d).isEmpty = true := nobIn_iff.mpr fun k hk hin => h ((A.sm _).mpr ⟨k, hk, ((mem_cls' A).mp hin).2.symm⟩)
    rw [z]; rfl
theorem bars_mem (A : AlbOk a) (h0 : 0 ≤ i) (h1 : i < a.many) (g0 : 0 ≤ j) (g1 : j < a.many) : (lead a i, lead a j) ∈ barsOf (lead a) a.says ↔ ∃ x y, Say.apa x y ∈ a.says ∧ ((x ∈ clsA a i ∧ y ∈ clsA a j) ∨ (x ∈ clsA a j ∧ y ∈ clsA a i)) := by
  rw [mem_bars]
  constructor
  · rintro ⟨x, y, hs, h⟩
    obtain ⟨x0, x1, y0, y1, _⟩ := A.s.ok _ hs
    refine ⟨x, y, hs, ?_⟩
    rcases h with h | h
    · exact .inl ⟨(mem_cls' A).mpr ⟨⟨x0, x1⟩, congrArg Prod.fst h⟩, (mem_cls' A).mpr ⟨⟨y0, y1⟩, congrArg Prod.snd h⟩⟩
    · exact .inr ⟨(mem_cls' A).mpr ⟨⟨x0, x1⟩, congrArg Prod.snd h⟩, (mem_cls' A).mpr ⟨⟨y0, y1⟩, congrArg Prod.fst h⟩⟩
  · rintro ⟨x, y, hs, ⟨h, g⟩ | ⟨h, g⟩⟩
    · exact ⟨x, y, hs, .inl (by rw [((mem_cls' A).mp h).2, ((mem_cls' A).mp g).2])⟩
    · exact ⟨x, y, hs, .inr (by rw [((mem_cls' A).mp h).2, ((mem_cls' A).mp g).2])⟩
theorem filter_leads (A : AlbOk a) (h0 : 0 ≤ i) (h1 : i < a.many) : (leadsA a).filter (fun l => decide (i ∈ clsA a l)) = [lead a i] := by
  refine strict_uniq ((picsA_so.filter _).filter _) (by simp) fun x => ?_
  rw [List.mem_filter, mem_leads, decide_eq_true_eq, mem_cls' A, List.mem_singleton]
  constructor
  · rintro ⟨⟨_, h⟩, _, g⟩; omega
  · rintro rfl
    exact ⟨⟨⟨(lead_is A h0 h1).lo, (lead_is A h0 h1).hi⟩, lead_lead A h0 h1⟩, ⟨h0, h1⟩, lead_lead A h0 h1⟩
theorem hd_cls (A : AlbOk a) (h0 : 0 ≤ i) (h1 : i < a.many) : ∃ r, clsA a i = lead a i :: r := by
  have l := lead_is A h0 h1
  have hm : lead a i ∈ clsA a i := (mem_cls A h0 h1).mpr l.cn
  have so := (clsA_is A h0 h1).so
  cases e : clsA a i with
  | nil => rw [e] at hm; cases hm
  | cons x r =>
    have hx : x ∈ clsA a i := by rw [e]; exact List.mem_cons_self
    have := l.le x ((mem_cls A h0 h1).mp hx)
    rw [e] at hm so
    refine ⟨r, ?_⟩
    congr 1
    rcases List.mem_cons.mp hm with z | z
    · exact z.symm
    · have := (List.pairwise_cons.mp so).1 _ z; omega
end
end L3
namespace L3
open PySem PySem.Spec PyProof.Rows L2 L3X
theorem caught_mk {K : PySem.W.Frag} {mg : Str → Option Value} {h : Heap} {c : Str} {C cR cM cN : Addr} (X : K.In h) (G : h.Ns mainGlobals mg) (a : PySem.W.nsIn K mainGlobals c = some (some (.ref C))) (aR : PySem.W.nsIn K mainGlobals "RoamError" = some (some (.ref cR))) (aM : PySem.W.nsIn K mainGlobals "Missing" = some (some (.ref cM))) (aN : PySem.W.nsIn K mainGlobals "NothingLeft" = some (some (.ref cN)))
    (xf : XfC K C) (nf : ∀ n ∈ fldNames, PySem.W.findIn K (.ref C) n = some none) (ex : PySem.W.exmAny K (.ref C) [.ref cR, .ref cM, .ref cN] = some true) : CaughtD K mg c := by
  obtain ⟨_, rfl⟩ := ca_of X G a
  obtain ⟨_, rfl⟩ := ca_of X G aR
  obtain ⟨_, rfl⟩ := ca_of X G aM
  obtain ⟨_, rfl⟩ := ca_of X G aN
  exact ⟨⟨xf, nf⟩, ex⟩
theorem law_code {K : PySem.W.Frag} {mg : Str → Option Value} {h : Heap} {x q : Str} {st : Stmt} {f c : Addr} {fd : FuncData} {oc kV doc pm ct : Value} {od an : Option Addr} {osl : Array (Option Value)} {nm qq : Str} {ar : Arguments} {bd : List Stmt} {sc : Scope} {dV : Value} (X : K.In h) (G : h.Ns mainGlobals mg) (a : PySem.W.nsIn K mainGlobals x = some (some (.ref f)))
    (l : K.lookup f = some ⟨oc, od, .func (PySem.W.fnOf nm qq ar bd sc dV kV doc pm an (.ref c) ct), osl⟩) (F : Fun K x q st (ca mg x) fd) : fd.code = .ref c := by
  obtain ⟨_, rfl⟩ := ca_of X G a
  obtain ⟨_, _, _, _, _, _, _, _, _, hfd, lk, _⟩ := F.ex
  rw [l] at lk
  cases lk
  rfl
end L3
/-! ### 76. Methods called with keywords -/
namespace L3
open PySem PySem.Spec PyProof.Rows L2
structure KwW (X : Cx) (pos : Pos) (kws : List Keyword) (m : Nat) (kf : KwF) : Prop where
  hp : ∀ j ∈ kf.perm, j < kf.ks.length + kf.df.length
  ks : (backToKw pos (keywordEach kws X.env)).filterMap (·.1) = kf.ks
  n : m + 1 = kf.n
section
variable {X : Cx} {w : Wi} {Γ Γ' : Ga} {M : Mm} {Q : D → Mm → Prop} {c f m x : Str} {d : D} {o e : Expr} {es : List Expr} {pos apos p pos' : Pos} {k k0 : Nat} {n : Nm} {ps : List Str} {KW : List KwF} {S : SpD} {P : Po} {rest : List Stmt} {fl : List Str} {kws : List Keyword} {kf : KwF}
theorem de_methK {pl : Sem Bool} (Sx : Sc X k0 n) (hst : starEach (e :: es) X.env = (false, eval e X.env) :: starEach es X.env) (hall : (backToKw pos (keywordEach kws X.env)).all (·.1.isSome) = true)
    (hpl : ((backTo pos (starEach (e :: es) X.env)).any (·.1) || (backToKw pos (keywordEach kws X.env)).any (·.1.isNone)) = false)
    (ht : eval (.Call (.Attribute o m apos) (e :: es) kws pos) X.env = (do
      let ov ← eval o X.env
      standAt apos.atName
      let (f, first) ← holding [ov] (getMethod ov m pl)
      callWith pos f first (backTo pos (starEach (e :: es) X.env)) (backToKw pos (keywordEach kws X.env))))
    (h : DE X w o Γ M fun x M1 => ∃ c k ps KW S, MthD X.prog X.w X.K X.mg X.base k c m ps KW S ∧ k ≤ k0 ∧ x.isO c m M1 ∧ ∃ kf ∈ KW, KwW X pos kws (e :: es).length kf ∧ DA X w (e :: es) Γ M1 fun as M2 => as.length + 1 = kf.n ∧ DK X w kws Γ M2 fun ds M3 => ds.length = kf.ks.length ∧ S (x :: (as ++ kf.perm.map fun j => (ds ++ kf.df).getD j .non)) M3 Q fun c fs M' => w.ed Γ c fs M') : DE X w (.Call (.Attribute o m apos) (e :: es) kws pos) Γ M Q := .mk fun F σ H Hb A => by
  intro pins s I
  refine PySem.W.methodCall_KW (pl := pl) (thn (h.run F σ H Hb A pins s I) fun u s1 ⟨v, H1, I1, r1, Hb1, d1, M1, e1, A1, rr, c, k, ps, KW, S, C, hk, ho, kf, hkf, W, q⟩ => ?_) ht
  obtain ⟨a, dx, ws, rfl, ha, hl⟩ := isO_ins A1 rr ho
  obtain rfl : u = Value.ref a := r1
  obtain ⟨g, fd, hm, f, _, b⟩ := C.ex
  refine getmeth_ok I1 ha C.cls hm hl (PySem.W.callWith_KW (first := [.ref a]) (h₀ := X.base) I.ok.mod.kin hm.kp hall (thn (q.run F σ H1 Hb1 A1 pos pins s1 I1) fun us s2 ⟨vs, H2, I2, rv, Hb2, as, M2, e2, A2, rr2, l0, q2⟩ => ?_) hpl hst)
  refine thn (q2.run F σ H2 Hb2 A2 pos pins s2 I2) fun ws s3 ⟨zs, H3, I3, rz, Hb3, ds, M3, e3, A3, r3, l, q3⟩ => ⟨I3.kIn, ?_⟩
  rw [W.ks]
  have l1 : (Value.ref a :: us).length = kf.n := by rw [List.length_cons, ← rv.length, rr2.length]; exact l0
  have l2 : ws.length = kf.ks.length := by rw [← rz.length, r3.length]; exact l
  obtain ⟨dv, dvs, rd, rdd, bb⟩ := b kf hkf
  obtain ⟨v1, v2⟩ := reps_perm (r3.append (rdd Hb3)) (rz.append rd) (perm := kf.perm) fun j hj => by rw [List.length_append, l]; exact W.hp j hj
  have rself : RelV (.ref a) (.ref a) := rfl
  exact run_kw (us := .ref a :: us) (vs := .ref a :: vs) f (Sx.room.mono hk) bb (passAt A.wok σ) I3 l1 l2 (.cons rself (rv.append v1)) (run_spD A3 ((e1.trans e2).trans e3) (.cons ((rr.mono e2).mono e3) ((rr2.mono e3).append v2)) q3)
theorem de_methK0 {pl : Sem Bool} (Sx : Sc X k0 n) (hall : (backToKw pos (keywordEach kws X.env)).all (·.1.isSome) = true)
    (hpl : ((backTo pos (starEach [] X.env)).any (·.1) || (backToKw pos (keywordEach kws X.env)).any (·.1.isNone)) = false)
    (ht : eval (.Call (.Attribute o m apos) [] kws pos) X.env = (do
      let ov ← eval o X.env
      standAt apos.atName
      let (f, first) ← holding [ov] (getMethod ov m pl)
      callWith pos f first (backTo pos (starEach [] X.env)) (backToKw pos (keywordEach kws X.env))))
    (h : DE X w o Γ M fun x M1 => ∃ c k ps KW S, MthD X.prog X.w X.K X.mg X.base k c m ps KW S ∧ k ≤ k0 ∧ x.isO c m M1 ∧ ∃ kf ∈ KW, KwW X pos kws 0 kf ∧ DK X w kws Γ M1 fun ds M3 => ds.length = kf.ks.length ∧ S (x :: (kf.perm.map fun j => (ds ++ kf.df).getD j .non)) M3 Q fun c fs M' => w.ed Γ c fs M') : DE X w (.Call (.Attribute o m apos) [] kws pos) Γ M Q := .mk fun F σ H Hb A => by
  intro pins s I
  refine PySem.W.methodCall_KW (pl := pl) (thn (h.run F σ H Hb A pins s I) fun u s1 ⟨v, H1, I1, r1, Hb1, d1, M1, e1, A1, rr, c, k, ps, KW, S, C, hk, ho, kf, hkf, W, q⟩ => ?_) ht
  obtain ⟨a, dx, ws, rfl, ha, hl⟩ := isO_ins A1 rr ho
  obtain rfl : u = Value.ref a := r1
  obtain ⟨g, fd, hm, f, _, b⟩ := C.ex
  refine getmeth_ok I1 ha C.cls hm hl (PySem.W.callWith_KW0 (first := [.ref a]) (h₀ := X.base) I.ok.mod.kin hm.kp hall ?_ hpl)
  refine thn (q.run F σ H1 Hb1 A1 pos pins s1 I1) fun ws s3 ⟨zs, H3, I3, rz, Hb3, ds, M3, e3, A3, r3, l, q3⟩ => ⟨I3.kIn, ?_⟩
  rw [W.ks]
  have l2 : ws.length = kf.ks.length := by rw [← rz.length, r3.length]; exact l
  obtain ⟨dv, dvs, rd, rdd, bb⟩ := b kf hkf
  obtain ⟨v1, v2⟩ := reps_perm (r3.append (rdd Hb3)) (rz.append rd) (perm := kf.perm) fun j hj => by rw [List.length_append, l]; exact W.hp j hj
  have rself : RelV (.ref a) (.ref a) := rfl
  exact run_kw (us := [.ref a]) (vs := [.ref a]) f (Sx.room.mono hk) bb (passAt A.wok σ) I3 W.n l2 (.cons rself v1) (run_spD A3 (e1.trans e3) (.cons (rr.mono e3) v2) q3)
theorem lf_mthK {x : D} {W' : KwF → Prop} {R : KwF → SpD → Prop} (ho : x.isO c m M) (C : MthD X.prog X.w X.K X.mg X.base k c m ps KW S) (hk : k ≤ k0) (hkf : kf ∈ KW) (hw : W' kf) (q : R kf S) : ∃ c k ps KW S, MthD X.prog X.w X.K X.mg X.base k c m ps KW S ∧ k ≤ k0 ∧ x.isO c m M ∧ ∃ kf ∈ KW, W' kf ∧ R kf S := ⟨c, k, ps, KW, S, C, hk, ho, kf, hkf, hw, q⟩
end
section
variable {M : Mm} {Q : D → Mm → Prop}
theorem lf_nePt {p q : Part} (hp : ∀ s ∈ p.2, PyData.strOk s = true) (hq : ∀ s ∈ q.2, PyData.strOk s = true) (z : Q (.bl (!decide (p = q))) M) : pNe (partD p) (partD q) M Q := ⟨ok_part (n := 57) hp, ok_part (n := 57) hq, by rw [eq_parts]; exact z⟩
end
end L3
/-! ### 77. min of texts that stand in order -/
namespace L3
open PySem PySem.Spec PyProof.Rows L2
theorem dataLt_of {s t : Str} (h : ltS s t) : PySem.W.dataLt (.str t) (.str s) = false := by
  rw [PySem.W.dataLt_str]
  exact decide_eq_false fun z => ltS_asym s t h z
theorem minD_S {s : Str} : ∀ {r : List Str}, (∀ t ∈ r, ltS s t) → PySem.W.minD (PyData.str s) (r.map PyData.str) = .str s
  | [], _ => rfl
  | t :: r, h => by
    have ih := minD_S (r := r) fun u hu => h u (List.mem_cons_of_mem _ hu)
    unfold PySem.W.minD at ih ⊢
    rw [List.map_cons, List.foldl_cons, dataLt_of (h t List.mem_cons_self), if_neg Bool.false_ne_true]
    exact ih
theorem depth_strs : ∀ l : List Str, PyData.depthAll (l.map .str) = 0
  | [] => rfl
  | s :: l => by rw [List.map_cons, PyData.depthAll, depth_strs l]; rfl
theorem alikeS (l : List Str) : PySem.W.AlikeAll (l.map .str) := by
  refine ⟨fun d hd d' hd' => ?_, fun d hd z => ?_⟩
  · obtain ⟨i, _, rfl⟩ := List.mem_map.mp hd
    obtain ⟨j, _, rfl⟩ := List.mem_map.mp hd'
    rfl
  · obtain ⟨i, _, rfl⟩ := List.mem_map.mp hd
    cases z
def pMinS : PP1 := fun x M Q => ∃ (s : Str) (r : List Str), x = .lst ((s :: r).map .str) ∧ (∀ t ∈ r, ltS s t) ∧ Q (.str s) M
theorem cd_minS {X : Cx} (hc : X.calm = true) (hu : X.A.units + 65 < cLine) : CD X (.builtin "min") (one pMinS) := .one fun w F H0 Hb H σ Γ M v x Q A e r q => by
  obtain ⟨s0, r0, hx, hlt, q⟩ := q
  subst hx
  cases r with
  | @lst a vs _ h rs =>
    intro pins s σ' us I rv
    obtain ⟨u, rfl, ru⟩ := vals1 rv
    obtain rfl : u = Value.ref a := ru
    rw [reps_strs rs] at h
    obtain ⟨its, rvs, hl, hz⟩ := I.list (SqL.of (A.hs.ex _ _ h))
    have sa : StrsAre its (s0 :: r0) := rvs.strs
    refine PySem.W.min_list_data (I.ok.hd hc) hl.isList (strs_readAll s.heap sa) (alikeS (s0 :: r0)) (by rw [show (PyData.str s0 :: r0.map PyData.str) = (s0 :: r0).map .str from rfl, depth_strs]; omega) fun i v h' tk bs hi hr hk => ?_
    rw [minD_S hlt] at hr
    cases hr with
    | str => exact ⟨.str s0, H, I.kept hk, ⟨_, rfl⟩, A.val e .str q⟩
theorem de_min' {X : Cx} {w : Wi} {Γ : Ga} {M : Mm} {Q : D → Mm → Prop} {a : Expr} {pos p : Pos} {k : Nat} {n : Nm} (S : Sc X k n) (hs : starEach [a] X.env = [(false, eval a X.env)]) (hx : ("min" : Str) ∈ n.glb) (hb : ("min" : Str) ∈ n.bts) (h : DE X w a Γ M fun d M1 => pMin d M1 Q ∨ pMinS d M1 Q) : DE X w (.Call (.Name "min" p) [a] [] pos) Γ M Q := .mk fun F σ H Hb A => by
  have e1 : PE X (.Call (.Name "min" p) [a] [] pos) _ := pe_callB semC_ok (S.gl _ hx).1 (S.bt _ hb) boot_min (pa_cons semE_ok pa_nil hs) (okN_n (S.gl _ hx).2) (okN_d (S.gl _ hx).2) hs rfl
  refine semE_of e1 ?_
  refine semE_mono (h.run F σ H Hb A) fun v H1 ⟨Hb1, d, M1, ex, A1, r, q⟩ => ?_
  rcases q with q | q
  · exact cd_min S.calm w F Hb Hb1 H1 σ Γ M1 [v] [d] Q A1 ex (.cons r .nil) q
  · exact cd_minS S.calm S.u65 w F Hb Hb1 H1 σ Γ M1 [v] [d] Q A1 ex (.cons r .nil) q
end L3
/-! ### 78. Small facts for the laws of albums -/
namespace L3
open PySem PySem.Spec PyProof.Rows L2
theorem isNum_cases (d : D) (n : Nat) : (∃ i, d = .int i ∧ 0 ≤ i ∧ i < (n : Int)) ∨ isNum d 0 ((n : Int) - 1) = false := by
  cases d with
  | int i =>
    by_cases h : 0 ≤ i ∧ i < (n : Int)
    · exact .inl ⟨i, rfl, h.1, h.2⟩
    · refine .inr ?_
      show (decide (0 ≤ i) && decide (i ≤ (n : Int) - 1)) = false
      by_cases h0 : 0 ≤ i
      · rw [decide_eq_false (show ¬ i ≤ (n : Int) - 1 by omega), Bool.and_false]
      · rw [decide_eq_false h0, Bool.false_and]
  | _ => exact .inr rfl
theorem sms_ints {n : Nat} : ∀ {l : List Int}, D.sms n (l.map .int) = true
  | [] => rfl
  | i :: l => sms_cons sm_int sms_ints
theorem sm_li {n : Nat} {l : List Int} (h : l.length ≤ 1000000) : D.sm (n + 1) (.lst (l.map .int)) = true := sm_lst (by rw [List.length_map]; exact h) sms_ints
section
variable {a : Alb} {i j : Int}
theorem clsA_len : (clsA a i).length ≤ a.many := by
  have := List.length_filter_le (fun j => decide (lead a i = lead a j)) (picsA a)
  rw [picsA_len] at this; exact this
theorem sm_cls (A : AlbOk a) {n : Nat} : D.sm (n + 1) (.lst ((clsA a i).map .int)) = true := sm_li (by have := clsA_len (a := a) (i := i); have := A.s.mm; omega)
theorem sm_clsl (A : AlbOk a) : D.sm 8 (.lst [.lst ((leadsA a).map fun i => .lst ((clsA a i).map .int)), .lst ((leadsA a).map .int)]) = true := by
  have h1 := leadsA_len (a := a)
  have h2 := A.s.mm
  exact sm_lst (by simp) (sms_cons (sm_lst (by rw [List.length_map]; omega) (sms_of fun x _ => sm_cls A)) (sms_cons (sm_li (by omega)) sms_nil))
theorem part_hd {r : List Int} (hr : clsA a i = lead a i :: r) : partD (partC a i) = .lst [.lst (.int (lead a i) :: r.map .int), .lst ((nameL a i).map .str)] := by
  unfold partC; rw [hr]; rfl
theorem odd_bad (A : AlbOk a) {d : D} (h : d ∈ ([.non, .str "a", .int (-1), .bl true, .tup [.int 0], .lst [.int 0], .str "0", .int (10 ^ 20), .int a.many, .int 24] : List D)) : isNum d 0 (a.many - 1) = false := by
  have := A.s.mm
  rcases isNum_cases d a.many with ⟨i, rfl, h0, h1⟩ | z
  · exfalso
    simp only [List.mem_cons, List.not_mem_nil, or_false, D.int.injEq, reduceCtorEq, false_or] at h
    omega
  · exact z
end
/-- an album of nothing but pictures -/
theorem lead_free {a : Alb} (A : AlbOk a) (e : a.says = []) {i : Int} (h0 : 0 ≤ i) (h1 : i < a.many) : lead a i = i := by
  have c := (lead_is A h0 h1).cn
  rw [e] at c
  have := conn_nil c
  simpa using this.symm
theorem classes_free {a : Alb} (A : AlbOk a) (e : a.says = []) : leadsA a = picsA a ∧ ∀ i : Int, 0 ≤ i → i < a.many → clsA a i = [i] := by
  refine ⟨?_, fun i h0 h1 => ?_⟩
  · unfold leadsA
    refine List.filter_eq_self.mpr fun i hi => ?_
    obtain ⟨h0, h1⟩ := mem_picsA.mp hi
    exact decide_eq_true (lead_free A e h0 h1)
  · refine strict_uniq (clsA_is A h0 h1).so (by simp) fun x => ?_
    rw [mem_cls' A, List.mem_singleton]
    constructor
    · rintro ⟨⟨g0, g1⟩, z⟩
      rw [lead_free A e h0 h1, lead_free A e g0 g1] at z
      exact z.symm
    · rintro rfl; exact ⟨⟨h0, h1⟩, rfl⟩
theorem leads0 {a : Alb} (A : AlbOk a) (e : a.says = []) (m : a.many = 0) : leadsA a = [] := by
  rw [(classes_free A e).1]; unfold picsA; rw [m]; rfl
theorem classes2 {a : Alb} (A : AlbOk a) (e : a.says = []) (m : a.many = 2) : (leadsA a).map (fun i => D.lst ((clsA a i).map .int)) = [.lst [.int 0], .lst [.int 1]] := by
  obtain ⟨h1, h2⟩ := classes_free A e
  rw [h1]
  have : picsA a = [0, 1] := by unfold picsA; rw [m]; rfl
  rw [this]
  simp only [List.map_cons, List.map_nil]
  rw [h2 0 (by omega) (by omega), h2 1 (by omega) (by omega)]
  rfl
end L3
namespace L3
open PySem PySem.Spec PyProof.Rows L2
section
variable {a : Alb} {i j : Int}
theorem names_ex (A : AlbOk a) (h0 : 0 ≤ i) (h1 : i < a.many) {s : Str} (hs : s ∈ nameL a i) : ∃ l, s = tx l ∧ NameL l := by
  have c := ((names_is A h0 h1).1.cn s).mp hs
  rcases c.touched with e | ⟨_, x, h | h⟩
  · cases e
  · obtain ⟨t, ht, he⟩ := List.mem_flatMap.mp h
    cases t with
    | nob i => cases he
    | apa i j => cases he
    | isn i l => simp [Say.tie] at he
    | sam i j => simp [Say.tie] at he
  · obtain ⟨t, ht, he⟩ := List.mem_flatMap.mp h
    have := A.s.ok t ht
    cases t with
    | nob i => cases he
    | apa i j => cases he
    | isn i l =>
      simp only [Say.tie, List.mem_singleton, Prod.mk.injEq, Sum.inr.injEq] at he
      exact ⟨l, he.2, this.2.2⟩
    | sam i j => simp [Say.tie] at he
theorem names_sm (A : AlbOk a) (h0 : 0 ≤ i) (h1 : i < a.many) {n : Nat} {s : Str} (hs : s ∈ nameL a i) : D.sm n (.str s) = true := by
  obtain ⟨l, rfl, hl⟩ := names_ex A h0 h1 hs
  exact sm_str (nameL_ok hl) (by have := hl.small; rw [tx_l]; omega)
theorem sm_row (A : AlbOk a) {w : D} (hw : D.sm 7 w = true) {b : Bool} : D.sm 8 (.lst [.lst ((clsA a i).map .int), .int (lead a i), w, .bl b]) = true := sm_lst (by simp) (sms_cons (sm_cls A) (sms_cons sm_int (sms_cons hw (sms_cons sm_bl sms_nil))))
theorem names_hd (A : AlbOk a) (h0 : 0 ≤ i) (h1 : i < a.many) {s : Str} {r : List Str} (e : nameL a i = s :: r) : ∀ t ∈ r, ltS s t := by
  have z := names_so A h0 h1
  rw [e] at z
  exact (List.pairwise_cons.mp z).1
theorem tied_eq (A : AlbOk a) (g0 : 0 ≤ j) (g1 : j < a.many) : decide (j ∈ (partC a i).1) = decide (lead a i = lead a j) := decide_eq_decide.mpr ⟨fun h => ((mem_cls' A).mp h).2, fun h => (mem_cls' A).mpr ⟨⟨g0, g1⟩, h⟩⟩
theorem lf_ixC {M : Mm} {Q : D → Mm → Prop} (A : AlbOk a) (h0 : 0 ≤ i) (h1 : i < a.many) (q : Q (.int (lead a i)) M) : pIx (.lst ((partC a i).1.map .int)) (.int 0) M Q := by
  obtain ⟨r, hr⟩ := hd_cls A h0 h1
  rw [show (partC a i).1 = lead a i :: r from hr]
  exact ⟨_, ix0, q⟩
end
end L3
namespace L3
open PySem PySem.Spec PyProof.Rows L2 L3X
section
variable {X : Cx} {w : Wi} {Γ : Ga} {M : Mm} {Q : D → Mm → Prop} {e0 : Expr} {pos : Pos} {params : Arguments} {body : Expr} {scope sc : Scope} {T : Addr} {qual x : Str}
theorem de_lamB2 (Mk : MakesL X qual T) (hsc : X.env.scope = sc) (chk : lamFB sc scope = true) (hx : params.args.map (·.arg) = [x]) (hdf : params.defaults = [e0]) (hkd : params.kw_defaults = [])
    (h : DE X w e0 Γ M fun _ M1 => M1 T = some (.tb (lamQ qual)) ∧ Q (.fn ⟨lamQ qual, params, [x], body, scope, cloFrom X.env.cells scope.names []⟩) M1) : DE X w (.Lambda params body scope pos) Γ M Q := de_lamB x Mk hsc chk hdf hkd h
theorem lf_tbM {c : Cell} {R : Prop} (h : M T = some c) (q : R) : M T = some c ∧ R := ⟨h, q⟩
end
end L3
/-! ### 79. _law_all, _law_got, called by the def that made the lambdas -/
namespace L3
open PySem PySem.Spec PyProof.Rows L2 L3X
section
variable {X : Cx} {w : Wi} {Γ : Ga} {M : Mm} {Q : D → Mm → Prop} {arg : Expr} {pos p : Pos} {k0 k kc : Nat} {n : Nm} {x y qual : Str} {T : Addr} {bts : List Str}
def clo0 (X : Cx) (kc : Nat) (bts : List Str) (l : LCap) : Clo4 := l.clo X kc bts fun _ => []
theorem allOk_vs {K : PySem.W.Frag} {mg : Str → Option Value} {R : List D → Mm → Prop} (v1 : Ga → List V) : ∀ (ls : List LCap) (acc : List D) (M : Mm), allOk K mg R (ls.map fun l => l.clo X kc bts v1) acc M = allOk K mg R (ls.map (clo0 X kc bts)) acc M
  | [], _, _ => rfl
  | l :: ls, acc, M => by
    have ih := allOk_vs (K := K) (mg := mg) (R := R) v1 ls
    show spLam X l.L kc l.glb bts l.G M (fun d M' => allOk K mg R (ls.map fun l => l.clo X kc bts v1) (acc ++ [.tup [.str "", d]]) M') (gotE K mg fun d M' => allOk K mg R (ls.map fun l => l.clo X kc bts v1) (acc ++ [d]) M') = spLam X l.L kc l.glb bts l.G M (fun d M' => allOk K mg R (ls.map (clo0 X kc bts)) (acc ++ [.tup [.str "", d]]) M') (gotE K mg fun d M' => allOk K mg R (ls.map (clo0 X kc bts)) (acc ++ [d]) M')
    simp only [ih]
/-- _law_all(a list of lambdas) -/
theorem de_allG (Sx : Sc X k0 n) (Mk : MakesL X qual T) (C : ∀ base, FnD X.prog X.w X.K X.mg base k x [y] [] (spAll X.prog X.w X.K X.mg base kc)) (hk : k ≤ k0) (hx : x ∈ n.glb) (he : starEach [arg] X.env = [(false, eval arg X.env)])
    (h : DE X w arg Γ M fun d M1 => ∃ ls : List LCap, d = .lst (ls.map LCap.fn) ∧ ls.length ≤ sizeLine ∧ (∀ l ∈ ls, LCapOk X Γ l) ∧ allOk X.K X.mg (fun rs M' => Q (.lst rs) M') (ls.map (clo0 X kc n.bts)) [] M1) : DE X w (.Call (.Name x p) [arg] [] pos) Γ M Q :=
  de_callR (S := fun base => spAll X.prog X.w X.K X.mg base kc) (kc := kc) Sx Mk.fn Mk.st C hk hx he (da_cons he (de_imp h fun d M1 ⟨ls, hd, hl, hok, hq⟩ => da_nil ⟨ls, false, by rw [hd]; rfl, hok, fun base vsOf hc => by
    refine ⟨ls.map fun l => l.clo X kc n.bts vsOf, ?_, by rw [List.length_map]; exact hl, fun l hm => ?_, ?_⟩
    · rw [List.map_map]; rfl
    · obtain ⟨l', h1, rfl⟩ := List.mem_map.mp hm
      exact hc l' h1
    · rw [allOk_vs]; exact hq⟩))
/-- _law_got(a lambda) -/
theorem de_gotG (Sx : Sc X k0 n) (Mk : MakesL X qual T) (C : ∀ base, FnD X.prog X.w X.K X.mg base k x [y] [] (spGot X.prog X.w X.K X.mg base kc)) (hk : k ≤ k0) (hx : x ∈ n.glb) (he : starEach [arg] X.env = [(false, eval arg X.env)])
    (h : DE X w arg Γ M fun d M1 => ∃ l : LCap, d = l.fn ∧ LCapOk X Γ l ∧ spLam X l.L kc l.glb n.bts l.G M1 (fun d M' => Q (.tup [.str "", d]) M') (gotE X.K X.mg Q)) : DE X w (.Call (.Name x p) [arg] [] pos) Γ M Q :=
  de_callR (S := fun base => spGot X.prog X.w X.K X.mg base kc) (kc := kc) Sx Mk.fn Mk.st C hk hx he (da_cons he (de_imp h fun d M1 ⟨l, hd, hok, hq⟩ => da_nil ⟨[l], true, by rw [hd]; rfl, fun l' hm => by rw [List.mem_singleton.mp hm]; exact hok, fun base vsOf hc => by
    exact ⟨l.L, vsOf l.G, capsG l.G, spLam X l.L kc l.glb n.bts l.G, rfl, hc l List.mem_cons_self, hq⟩⟩))
theorem lcs_nil : ∀ l ∈ ([] : List LCap), LCapOk X Γ l := fun _ h => nomatch h
theorem lcs_cons {l : LCap} {ls : List LCap} (h : LCapOk X Γ l) (t : ∀ l ∈ ls, LCapOk X Γ l) : ∀ l' ∈ l :: ls, LCapOk X Γ l' := fun l' hm => by
  rcases List.mem_cons.mp hm with rfl | hm
  · exact h
  · exact t l' hm
theorem lcs_cons' {L : Lam} {glb : List Str} {G : Ga} {ls : List LCap} (sub : G.Sublist Γ) (vis : ∀ e ∈ G, Vis L.scope e.1 ∧ e.2.2.isSome = true) (ok : LamOk X L glb) (t : ∀ l ∈ ls, LCapOk X Γ l) : ∀ l' ∈ (⟨L, glb, G⟩ : LCap) :: ls, LCapOk X Γ l' := lcs_cons ⟨ok, sub, vis⟩ t
theorem lc_of {L : Lam} {glb : List Str} {G : Ga} (sub : G.Sublist Γ) (vis : ∀ e ∈ G, Vis L.scope e.1 ∧ e.2.2.isSome = true) (ok : LamOk X L glb) : LCapOk X Γ ⟨L, glb, G⟩ := ⟨ok, sub, vis⟩
theorem vis_nil {sc : Scope} : ∀ e ∈ ([] : Ga), Vis sc e.1 ∧ e.2.2.isSome = true := fun _ h => nomatch h
theorem vis_cons {sc : Scope} {v : Str} {i : Nat} {d : D} {G : Ga} (h : Vis sc v) (t : ∀ e ∈ G, Vis sc e.1 ∧ e.2.2.isSome = true) : ∀ e ∈ (v, i, some d) :: G, Vis sc e.1 ∧ e.2.2.isSome = true := fun e hm => by
  rcases List.mem_cons.mp hm with rfl | hm
  · exact ⟨h, rfl⟩
  · exact t e hm
theorem allOk_nil {K : PySem.W.Frag} {mg : Str → Option Value} {R : List D → Mm → Prop} {acc : List D} (h : R acc M) : allOk K mg R [] acc M := h
theorem allOk_cons {K : PySem.W.Frag} {mg : Str → Option Value} {R : List D → Mm → Prop} {acc : List D} {L : Lam} {glb : List Str} {G : Ga} {ls : List LCap} (h : ∀ (X' : Cx) (w' : Wi), LamIn X X' L kc glb bts → (w'.ed = fun _ c fs M' => gotE K mg (fun d M' => allOk K mg R (ls.map (clo0 X kc bts)) (acc ++ [d]) M') c fs M') → DE X' w' L.body G M fun d M' => allOk K mg R (ls.map (clo0 X kc bts)) (acc ++ [.tup [.str "", d]]) M') :
    allOk K mg R (((⟨L, glb, G⟩ : LCap) :: ls).map (clo0 X kc bts)) acc M := h
theorem gotE_of {K : PySem.W.Frag} {mg : Str → Option Value} {R : D → Mm → Prop} {c code : Str} {fs : List (Str × D)} {d : D} (C : CaughtD K mg c) (hc : fs.lookup ("code" : Str) = some (D.str code)) (hk : PyData.strOk code = true) (hd : fldOf code fs = some d) (q : R (.tup [.str code, d]) M) : gotE K mg R c fs M := ⟨C, code, d, hc, hk, hd, q⟩
end
end L3
namespace L3
open PySem PySem.Spec PyProof.Rows L2 L3X
/-- some names of a names' list, all known -/
inductive PkG : List Str → Ga → Ga → Prop
  | nil {Γ} : PkG [] Γ []
  | take {x i d ns Γ G} : PkG ns Γ G → PkG (x :: ns) ((x, i, some d) :: Γ) ((x, i, some d) :: G)
  | skip {e ns Γ G} : PkG ns Γ G → PkG ns (e :: Γ) G
theorem PkG.sub {ns : List Str} {Γ G : Ga} (h : PkG ns Γ G) : G.Sublist Γ := by
  induction h with
  | nil => exact List.nil_sublist _
  | take _ ih => exact ih.cons₂ _
  | skip _ ih => exact ih.cons _
theorem PkG.is {ns : List Str} {Γ G : Ga} (h : PkG ns Γ G) : ∀ e ∈ G, e.1 ∈ ns ∧ e.2.2.isSome = true := by
  induction h with
  | nil => exact fun _ h => nomatch h
  | take _ ih =>
    intro e hm
    rcases List.mem_cons.mp hm with rfl | hm
    · exact ⟨List.mem_cons_self, rfl⟩
    · exact ⟨List.mem_cons_of_mem _ (ih e hm).1, (ih e hm).2⟩
  | skip _ ih => exact ih
def visB (sc : Scope) (x : Str) : Bool := decide (sc.names.lookup x = some .local) || (decide (sc.names.lookup x = some .cell) || decide (sc.names.lookup x = some .free))
theorem vis_of {sc : Scope} {x : Str} (h : visB sc x = true) : Vis sc x := by
  unfold visB at h
  simp only [Bool.or_eq_true, decide_eq_true_eq] at h
  exact h
structure LamIs (X : Cx) (L : Lam) (glb ns : List Str) : Prop where
  ok : LamOk X L glb
  vs : ∀ x ∈ ns, Vis L.scope x
theorem lamIs_of {X : Cx} {N nm glb ns : List Str} {sc scope : Scope} {params : Arguments} {body : Expr} {qual : Str} (hN : X.N = N) (hsc : X.env.scope = sc) (chk : (lamOkB N nm sc scope glb && ns.all (visB scope)) = true) (b : BindsL ⟨lamQ qual, params, nm, body, scope, cloFrom X.env.cells scope.names []⟩) : LamIs X ⟨lamQ qual, params, nm, body, scope, cloFrom X.env.cells scope.names []⟩ glb ns := by
  obtain ⟨h1, h2⟩ := Bool.and_eq_true_iff.mp chk
  exact ⟨lamOk_of hN hsc h1 b, fun x hx => vis_of (List.all_eq_true.mp h2 x hx)⟩
inductive LCs (X : Cx) (Γ : Ga) : List (List Str × List Str) → List D → List LCap → Prop
  | nil : LCs X Γ [] [] []
  | cons {glb ns L G nms ds ls} (pk : PkG ns Γ G) (ok : LamIs X L glb ns) (t : LCs X Γ nms ds ls) : LCs X Γ ((glb, ns) :: nms) (.fn L :: ds) (⟨L, glb, G⟩ :: ls)
section
variable {X : Cx} {Γ : Ga}
theorem lc_is {L : Lam} {G : Ga} {glb ns : List Str} (pk : PkG ns Γ G) (ok : LamIs X L glb ns) : LCapOk X Γ ⟨L, glb, G⟩ := ⟨ok.ok, pk.sub, fun e he => ⟨ok.vs _ (pk.is e he).1, (pk.is e he).2⟩⟩
theorem LCs.fn {nms : List (List Str × List Str)} {ds : List D} {ls : List LCap} (h : LCs X Γ nms ds ls) : ds = ls.map LCap.fn ∧ ∀ l ∈ ls, LCapOk X Γ l := by
  induction h with
  | nil => exact ⟨rfl, fun _ h => nomatch h⟩
  | cons pk ok _ ih => exact ⟨by rw [ih.1]; rfl, lcs_cons (lc_is pk ok) ih.2⟩
theorem lams_of (nms : List (List Str × List Str)) {ds : List D} {ls : List LCap} {R : List LCap → Prop} (h : LCs X Γ nms ds ls) (hl : nms.length ≤ 1000) (q : R ls) : ∃ ls : List LCap, D.lst ds = .lst (ls.map LCap.fn) ∧ ls.length ≤ sizeLine ∧ (∀ l ∈ ls, LCapOk X Γ l) ∧ R ls := by
  have e : ls.length = nms.length := by clear q; induction h with
    | nil => rfl
    | cons _ _ _ ih => rw [List.length_cons, List.length_cons, ih (by simp at hl; omega)]
  exact ⟨ls, by rw [← h.fn.1], by rw [e, sizeLine_eq]; omega, h.fn.2, q⟩
theorem lam_of (glb ns : List Str) {L : Lam} {G : Ga} {R : LCap → Prop} (pk : PkG ns Γ G) (ok : LamIs X L glb ns) (q : R ⟨L, glb, G⟩) : ∃ l : LCap, D.fn L = l.fn ∧ LCapOk X Γ l ∧ R l := ⟨⟨L, glb, G⟩, rfl, lc_is pk ok, q⟩
end
end L3
namespace L3
open PySem PySem.Spec PyProof.Rows L2
section
variable {X : Cx} {w : Wi} {Γ : Ga} {M : Mm} {Q : D → Mm → Prop} {c m : Str} {e : Expr} {es es2 : List Expr} {kws : List Keyword} {pos pos2 apos p : Pos} {k k0 : Nat} {n : Nm} {ps : List Str} {KW : List KwF} {S : SpD}
/-- C(..).m() -/
theorem de_meth0F {pl : Sem Bool} (Sx : Sc X k0 n) (C : IniD X.prog X.w X.K X.mg X.base k c ps KW S)
    (ht : eval (.Call (.Attribute (.Call (.Name c p) es2 kws pos2) m apos) [] [] pos) X.env = (do
      let ov ← eval (.Call (.Name c p) es2 kws pos2) X.env
      standAt apos.atName
      let (f, first) ← holding [ov] (getMethod ov m pl)
      callWith pos f first (backTo pos (starEach [] X.env)) (backToKw pos (keywordEach [] X.env))))
    (h : DE X w (.Call (.Name c p) es2 kws pos2) Γ M (FrzK fun x M1 => ∃ c k ps KW S, MthD X.prog X.w X.K X.mg X.base k c m ps KW S ∧ k ≤ k0 ∧ x.isO c m M1 ∧ S [x] M1 Q fun c fs M' => w.ed Γ c fs M')) : DE X w (.Call (.Attribute (.Call (.Name c p) es2 kws pos2) m apos) [] [] pos) Γ M Q := de_meth0 Sx ht (de_freeze h)
/-- C(..).m(e, ..) -/
theorem de_methF {pl : Sem Bool} (Sx : Sc X k0 n) (C : IniD X.prog X.w X.K X.mg X.base k c ps KW S) (hst : starEach (e :: es) X.env = (false, eval e X.env) :: starEach es X.env) (hpl : (backTo pos (starEach es X.env)).any (·.1) = false)
    (ht : eval (.Call (.Attribute (.Call (.Name c p) es2 kws pos2) m apos) (e :: es) [] pos) X.env = (do
      let ov ← eval (.Call (.Name c p) es2 kws pos2) X.env
      standAt apos.atName
      let (f, first) ← holding [ov] (getMethod ov m pl)
      callWith pos f first (backTo pos (starEach (e :: es) X.env)) (backToKw pos (keywordEach [] X.env))))
    (h : DE X w (.Call (.Name c p) es2 kws pos2) Γ M (FrzK fun x M1 => ∃ c k ps KW S, MthD X.prog X.w X.K X.mg X.base k c m ps KW S ∧ k ≤ k0 ∧ x.isO c m M1 ∧ DA X w (e :: es) Γ M1 fun ds M2 => S (x :: ds) M2 Q fun c fs M' => w.ed Γ c fs M')) : DE X w (.Call (.Attribute (.Call (.Name c p) es2 kws pos2) m apos) (e :: es) [] pos) Γ M Q := de_meth Sx hst hpl ht (de_freeze h)
end
end L3
namespace L3
open PySem PySem.Spec PyProof.Rows L2
section
variable {X : Cx} {w : Wi} {Γ : Ga} {M : Mm} {Q : D → Mm → Prop} {c x : Str} {e : Expr} {es : List Expr} {pos p : Pos} {k k0 : Nat} {n : Nm} {ps : List Str} {KW : List KwF} {S : SpD}
theorem de_make1 (Sx : Sc X k0 n) (C : IniD X.prog X.w X.K X.mg X.base k c ps KW S) (_hl : (e :: es).length + 1 = ps.length) (hk : k + 1 ≤ k0) (hx : c ∈ n.glb) (he : starEach (e :: es) X.env = (false, eval e X.env) :: starEach es X.env) (hpl : (backTo pos (starEach es X.env)).any (·.1) = false)
    (h : DA X w (e :: es) Γ M fun ds M1 => ∀ p, M1 p = none → S (.ptr p :: ds) (M1.put p (.o c [])) (fun d M' => d = .non ∧ Q (.ptr p) M') fun c fs M' => w.ed Γ c fs M') : DE X w (.Call (.Name c p) (e :: es) [] pos) Γ M Q := de_make Sx C hk hx he hpl h
theorem de_call1 (Sx : Sc X k0 n) (C : FnD X.prog X.w X.K X.mg X.base k x ps KW S) (_hl : (e :: es).length = ps.length) (hk : k ≤ k0) (hx : x ∈ n.glb) (he : starEach (e :: es) X.env = (false, eval e X.env) :: starEach es X.env) (hpl : (backTo pos (starEach es X.env)).any (·.1) = false)
    (h : DA X w (e :: es) Γ M fun ds M1 => S ds M1 Q fun c fs M' => w.ed Γ c fs M') : DE X w (.Call (.Name x p) (e :: es) [] pos) Γ M Q := de_call Sx C hk hx he hpl h
end
end L3
namespace L3
open PySem PySem.Spec PyProof.Rows L2
section
variable {X : Cx} {w : Wi} {Γ : Ga} {M : Mm} {Q : D → Mm → Prop} {c x : Str} {e : Expr} {es : List Expr} {pos p : Pos} {k k0 : Nat} {n : Nm} {ps : List Str} {KW : List KwF} {S : SpD} {kws : List Keyword} {kf : KwF}
theorem de_makeF1 (Sx : Sc X k0 n) (C : IniD X.prog X.w X.K X.mg X.base k c ps KW S) (hk : k + 1 ≤ k0) (hx : c ∈ n.glb) (hkf : kf ∈ KW) (_hn : (e :: es).length + 1 = kf.n) (hp : ∀ j ∈ kf.perm, j < kf.ks.length + kf.df.length)
    (hall : (backToKw pos (keywordEach kws X.env)).all (·.1.isSome) = true) (hks : (backToKw pos (keywordEach kws X.env)).filterMap (·.1) = kf.ks)
    (he : starEach (e :: es) X.env = (false, eval e X.env) :: starEach es X.env) (hpl : ((backTo pos (starEach (e :: es) X.env)).any (·.1) || (backToKw pos (keywordEach kws X.env)).any (·.1.isNone)) = false)
    (h : DA X w (e :: es) Γ M fun as M0 => as.length + 1 = kf.n ∧ DK X w kws Γ M0 fun ds M1 => ds.length = kf.ks.length ∧ ∀ p, M1 p = none → S (.ptr p :: (as ++ kf.perm.map fun j => (ds ++ kf.df).getD j .non)) (M1.put p (.o c [])) (fun d M' => d = .non ∧ Q (.ptr p) M') fun c fs M' => w.ed Γ c fs M') : DE X w (.Call (.Name c p) (e :: es) kws pos) Γ M Q := de_makeF Sx C hk hx hkf hp hall hks he hpl h
theorem de_callK1 (Sx : Sc X k0 n) (C : FnD X.prog X.w X.K X.mg X.base k x ps KW S) (hk : k ≤ k0) (hx : x ∈ n.glb) (hkf : kf ∈ KW) (_hn : (e :: es).length = kf.n) (hp : ∀ j ∈ kf.perm, j < kf.ks.length + kf.df.length)
    (hall : (backToKw pos (keywordEach kws X.env)).all (·.1.isSome) = true) (hks : (backToKw pos (keywordEach kws X.env)).filterMap (·.1) = kf.ks)
    (he : starEach (e :: es) X.env = (false, eval e X.env) :: starEach es X.env) (hpl : ((backTo pos (starEach (e :: es) X.env)).any (·.1) || (backToKw pos (keywordEach kws X.env)).any (·.1.isNone)) = false)
    (h : DA X w (e :: es) Γ M fun as M0 => as.length = kf.n ∧ DK X w kws Γ M0 fun ds M1 => ds.length = kf.ks.length ∧ S (as ++ kf.perm.map fun j => (ds ++ kf.df).getD j .non) M1 Q fun c fs M' => w.ed Γ c fs M') : DE X w (.Call (.Name x p) (e :: es) kws pos) Γ M Q := de_callK Sx C hk hx hkf hp hall hks he hpl h
end
end L3
/-! ### 80. split, int of a text, str -/
namespace L3
open PySem PySem.Spec PyProof.Rows L2
section
variable {X : Cx} {w : Wi} {Γ : Ga} {M : Mm} {Q : D → Mm → Prop} {o e a : Expr} {apos cpos pos p : Pos} {k : Nat} {n : Nm}
def pSplit : PPM
  | .str x, [.str y], M, Q => (y.length == 0) = false ∧ x.length + 2 ≤ sizeLine ∧ Q (.lst ((Txt.split x y).map .str)) M
  | _, _, _, _ => False
theorem md_split : MD X "str" "str.split" pSplit := fun w F H0 Hb H σ Γ M v vs x xs Q A e rx rs q => by
  cases rx with
  | str =>
    cases rs with
    | nil => exact q.elim
    | cons r1 r2 =>
      cases r2 with
      | cons _ _ => exact (by cases r1 <;> exact q.elim)
      | nil =>
        cases r1 with
        | str =>
          obtain ⟨h1, h2, q⟩ := q
          exact semM_of mt_split ⟨_, _, rfl, rfl, h1, h2, fun p hp => A.lst e of_strs hp q⟩
        | _ => exact q.elim
  | _ => exact q.elim
theorem de_split (hs : starEach [e] X.env = [(false, eval e X.env)]) (hbase : attributeBase o "split" X.env (eval o X.env) = eval o X.env) (hline : (apos.endLine == cpos.line) = true)
    (h : DE X w o Γ M fun x M1 => ∃ s, x = .str s ∧ DE X w e Γ M1 fun d M2 => pSplit (.str s) [d] M2 Q) : DE X w (.Call (.Attribute o "split" apos) [e] [] cpos) Γ M Q :=
  de_bm PySem.F.plainAttrs_str PySem.F.slot_str_split PySem.F.type_str_split md_split hbase (by rw [hs]; rfl) hline hs rfl (de_imp h fun x M1 ⟨s, h1, h3⟩ => by
    subst h1
    exact ⟨rfl, da_cons hs (de_imp h3 fun d M2 q => da_nil q)⟩)
theorem lf_split {x y : Str} (h1 : (y.length == 0) = false) (h2 : x.length + 2 ≤ 16777216) (q : Q (.lst ((Txt.split x y).map .str)) M) : pSplit (.str x) [.str y] M Q := ⟨h1, by rw [sizeLine_eq]; exact h2, q⟩
def pIntT : PP1 := fun d M Q => pInt d M Q ∨ ∃ s i, d = .str s ∧ PySem.intText? s = some i ∧ s.length ≤ 640 ∧ Q (.int i) M
theorem cd_intT : CD X (.type "int") (one pIntT) := .one fun w F H0 Hb H σ Γ M v x Q A e r q => by
  rcases q with q | ⟨s, i, hx, h1, h2, q⟩
  · exact cd_int w F H0 Hb H σ Γ M [v] [x] Q A e (.cons r .nil) q
  · subst hx
    cases r
    exact semC_of call_int_str ⟨s, i, rfl, h1, h2, A.val e .int q⟩
theorem de_intT (S : Sc X k n) (hs : starEach [a] X.env = [(false, eval a X.env)]) (hx : ("int" : Str) ∈ n.glb) (hb : ("int" : Str) ∈ n.bts) (h : DE X w a Γ M fun d M1 => pIntT d M1 Q) : DE X w (.Call (.Name "int" p) [a] [] pos) Γ M Q :=
  de_callT S hx (S.bt _ hb) boot_int' cd_intT hs rfl (da_cons hs (de_imp h fun d M1 q => da_nil q))
theorem lf_intT0 {d : D} (q : pInt d M Q) : pIntT d M Q := .inl q
theorem lf_intS {s : Str} {i : Int} (h : PySem.intText? s = some i) (l : s.length ≤ 640) (q : Q (.int i) M) : pIntT (.str s) M Q := .inr ⟨s, i, rfl, h, l, q⟩
def decS (i : Int) : Str := Str.ofString (toString i)
def pStrC : PP1
  | .int i, M, Q => i.natAbs.log2 < 1920 ∧ Q (.str (decS i)) M
  | .str s, M, Q => Q (.str s) M
  | _, _, _ => False
theorem cd_str : CD X (.type "str") (one pStrC) := .one fun w F H0 Hb H σ Γ M v x Q A e r q => by
  cases r with
  | int => exact semC_of call_str_int ⟨_, rfl, q.1, A.val e .str q.2⟩
  | str => exact semC_of SkE.call_str_str ⟨_, rfl, A.val e .str q⟩
  | _ => exact q.elim
theorem de_strC (S : Sc X k n) (hs : starEach [a] X.env = [(false, eval a X.env)]) (hx : ("str" : Str) ∈ n.glb) (hb : ("str" : Str) ∈ n.bts) (h : DE X w a Γ M fun d M1 => pStrC d M1 Q) : DE X w (.Call (.Name "str" p) [a] [] pos) Γ M Q :=
  de_callT S hx (S.bt _ hb) boot_str' cd_str hs rfl (da_cons hs (de_imp h fun d M1 q => da_nil q))
theorem log_small {i : Int} (h0 : -1000000 ≤ i) (h1 : i ≤ 1000000) : i.natAbs.log2 < 1920 := by
  by_cases z : i.natAbs = 0
  · rw [z]; decide
  · have : i.natAbs.log2 < 20 := (Nat.log2_lt z).mpr (by omega)
    omega
theorem lf_strI {i : Int} (h0 : -1000000 ≤ i) (h1 : i ≤ 1000000) (q : Q (.str (decS i)) M) : pStrC (.int i) M Q := ⟨log_small h0 h1, q⟩
theorem lf_strS {s : Str} (q : Q (.str s) M) : pStrC (.str s) M Q := q
end
end L3
/-! ### 81. The words of a text; the texts of sayings -/
namespace L3
open PySem PySem.Spec PyProof.Rows L2 TL
def wl : List Nat → List Nat → List (List Nat)
  | acc, [] => [acc]
  | acc, c :: r => if c = 32 then acc :: wl [] r else wl (acc ++ [c]) r
def wordsL (l : List Nat) : List (List Nat) := wl [] l
theorem spl_wl : ∀ (l acc : List Nat), spl [32] 0 acc l = wl acc l
  | [], acc => by rw [spl_nil]; rfl
  | c :: r, acc => by
    unfold wl
    by_cases h : c = 32
    · rw [if_pos h, spl_hit (by subst h; rfl)]
      show acc :: spl [32] 0 [] r = _
      rw [spl_wl r []]
    · rw [if_neg h, spl_miss (pre_of_head [] r h), spl_wl r _]
theorem wl_cons : ∀ (l acc : List Nat), ∃ w r, wl acc l = w :: r
  | [], acc => ⟨acc, [], rfl⟩
  | c :: r, acc => by
    unfold wl
    by_cases h : c = 32
    · rw [if_pos h]; exact ⟨_, _, rfl⟩
    · rw [if_neg h]; exact wl_cons r _
theorem wl_len : ∀ (l acc : List Nat), (wl acc l).length ≤ l.length + 1
  | [], acc => Nat.le_refl _
  | c :: r, acc => by
    unfold wl
    by_cases h : c = 32
    · rw [if_pos h]; simp only [List.length_cons]; have := wl_len r []; omega
    · rw [if_neg h]; simp only [List.length_cons]; have := wl_len r (acc ++ [c]); omega
theorem wl_mem : ∀ (l acc : List Nat), ∀ w ∈ wl acc l, w.length ≤ acc.length + l.length ∧ ∀ c ∈ w, c ∈ acc ∨ c ∈ l
  | [], acc, w, h => by
    rw [List.mem_singleton.mp h]
    exact ⟨by simp, fun c hc => .inl hc⟩
  | c :: r, acc, w, h => by
    unfold wl at h
    by_cases z : c = 32
    · rw [if_pos z] at h
      rcases List.mem_cons.mp h with rfl | h
      · exact ⟨by omega, fun c hc => .inl hc⟩
      · obtain ⟨h1, h2⟩ := wl_mem r [] w h
        refine ⟨by simp at h1 ⊢; omega, fun d hd => ?_⟩
        rcases h2 d hd with y | y
        · cases y
        · exact .inr (List.mem_cons_of_mem _ y)
    · rw [if_neg z] at h
      obtain ⟨h1, h2⟩ := wl_mem r _ w h
      refine ⟨by simp at h1 ⊢; omega, fun d hd => ?_⟩
      rcases h2 d hd with y | y
      · rcases List.mem_append.mp y with y | y
        · exact .inl y
        · rw [List.mem_singleton.mp y]; exact .inr List.mem_cons_self
      · exact .inr (List.mem_cons_of_mem _ y)
theorem stok_sub {a b : List Nat} (h : PyData.strOk (tx a) = true) (k : ∀ c ∈ b, c ∈ a) : PyData.strOk (tx b) = true := by
  rw [stok_iff] at *; exact fun c hc => h c (k c hc)
theorem words_mem {l w : List Nat} (h : w ∈ wordsL l) (ok : PyData.strOk (tx l) = true) : PyData.strOk (tx w) = true ∧ w.length ≤ l.length := by
  obtain ⟨h1, h2⟩ := wl_mem l [] w h
  exact ⟨stok_sub ok fun c hc => (h2 c hc).resolve_left (fun z => nomatch z), by simpa using h1⟩
theorem words_len {l : List Nat} : (wordsL l).length ≤ l.length + 1 := wl_len l []
theorem words_cons (l : List Nat) : ∃ w r, wordsL l = w :: r := wl_cons l []
theorem sp_tl : tl (" " : Str) = [32] := by decide +kernel
theorem split_words (l : List Nat) : (Txt.split (tx l) " ").map D.str = (wordsL l).map fun w => .str (tx w) := by
  have h := split_spl (tx l) " " (by rw [sp_tl]; simp) (kind_ok (by decide +kernel))
  rw [sp_tl] at h
  have h : (Txt.split (tx l) " ").map tl = wordsL l := h.trans (spl_wl l [])
  rw [← h, List.map_map]
  exact List.map_congr_left fun s _ => congrArg D.str (mk_tl s).symm
theorem lf_splitX {M : Mm} {Q : D → Mm → Prop} {l : List Nat} (h : l.length ≤ 1000000) (q : Q (.lst ((wordsL l).map fun w => .str (tx w))) M) : pSplit (.str (tx l)) [.str " "] M Q :=
  ⟨by decide +kernel, by rw [sizeLine_eq]; show l.toArray.size + 2 ≤ _; simp; omega, by rw [split_words]; exact q⟩
theorem words_join {ws : List (List Nat)} (h : ws ≠ []) (k : ∀ w ∈ ws, 32 ∉ w) : wordsL (joinL [32] ws) = ws := by
  show wl [] _ = ws
  rw [← spl_wl]
  exact spl_join h k
theorem join_words (ws : List (List Nat)) : Txt.join " " (ws.map tx) = tx (joinL [32] ws) := by
  rw [join_eq]
  have h := tl_join " " (ws.map tx)
  rw [sp_tl, List.map_map] at h
  have e : (ws.map (tl ∘ tx)) = ws := by
    conv => rhs; rw [← List.map_id ws]
    exact List.map_congr_left fun _ _ => rfl
  rw [e] at h
  rw [← h]
/-! numbers in words -/
def isDig (c : Nat) : Bool := decide (c ∈ digs.cps.toList)
theorem isDig_iff {c : Nat} : isDig c = true ↔ 48 ≤ c ∧ c ≤ 57 := by unfold isDig; rw [decide_eq_true_eq, mem_digs]
def plainN (l : List Nat) : Bool := !decide (l = []) && (decide (l.length ≤ 2) && l.all isDig)
def goodN (l : List Nat) : Bool := plainN l && (decide (l.length = 1) || !decide (l.take 1 = [48]))
def valN (l : List Nat) : Int := l.foldl (fun (t : Int) (c : Nat) => t * 10 + ((c : Int) - 48)) 0
theorem int_1 : ∀ a : Nat, a < 10 → PySem.intText? (tx [48 + a]) = some (a : Int) := by decide +kernel
theorem int_2 : ∀ a : Nat, a < 10 → ∀ b : Nat, b < 10 → PySem.intText? (tx [48 + a, 48 + b]) = some ((a * 10 + b : Nat) : Int) := by decide +kernel
theorem plain_int {l : List Nat} (h : plainN l = true) : PySem.intText? (tx l) = some (valN l) ∧ 0 ≤ valN l ∧ valN l ≤ 99 := by
  unfold plainN at h
  simp only [Bool.and_eq_true, Bool.not_eq_true', decide_eq_false_iff_not, decide_eq_true_eq] at h
  obtain ⟨h0, h1, h2⟩ := h
  match l, h0, h1 with
  | [a], _, _ =>
    have ha := isDig_iff.mp (List.all_eq_true.mp h2 a (by simp))
    have z := int_1 (a - 48) (by omega)
    rw [show 48 + (a - 48) = a by omega] at z
    have e : valN [a] = ((a - 48 : Nat) : Int) := by simp only [valN, List.foldl_cons, List.foldl_nil]; omega
    rw [e]; exact ⟨z, by omega, by omega⟩
  | [a, b], _, _ =>
    have ha := isDig_iff.mp (List.all_eq_true.mp h2 a (by simp))
    have hb := isDig_iff.mp (List.all_eq_true.mp h2 b (by simp))
    have z := int_2 (a - 48) (by omega) (b - 48) (by omega)
    rw [show 48 + (a - 48) = a by omega, show 48 + (b - 48) = b by omega] at z
    have e : valN [a, b] = (((a - 48) * 10 + (b - 48) : Nat) : Int) := by simp only [valN, List.foldl_cons, List.foldl_nil]; omega
    rw [e]; exact ⟨z, by omega, by omega⟩
theorem good_plain {l : List Nat} (h : goodN l = true) : plainN l = true := (Bool.and_eq_true_iff.mp h).1
def numIn (l : List Nat) (m : Int) : Option Int := if goodN l = true ∧ valN l ≤ m then some (valN l) else none
def optI : Option Int → D
  | none => .non
  | some i => .int i
def itemIn (l : List Nat) : D := match numIn l 23 with
  | some i => .int i
  | none => .str (tx l)
def lawIt (l : List Nat) : D := if goodN l = true then .int (valN l) else .str (tx l)
def readT : List (List Nat) → D
  | [] => .non
  | w :: r => .tup (.str (tx w) :: r.map itemIn)
def lawT : List (List Nat) → D
  | [] => .non
  | w :: r => .tup (.str (tx w) :: r.map lawIt)
theorem item_law {l : List Nat} : itemIn l = lawIt l ∨ ((∀ lo, isNum (itemIn l) lo 23 = false) ∧ (∀ lo, isNum (lawIt l) lo 23 = false) ∧ isName (itemIn l) = false ∧ isName (lawIt l) = false) := by
  unfold itemIn lawIt numIn
  by_cases g : goodN l = true
  · rw [if_pos g]
    by_cases v : valN l ≤ 23
    · rw [if_pos ⟨g, v⟩]; exact .inl rfl
    · rw [if_neg fun z => v z.2]
      refine .inr ⟨fun _ => rfl, fun lo => ?_, ?_, rfl⟩
      · show (decide (lo ≤ valN l) && decide (valN l ≤ 23)) = false
        rw [decide_eq_false v, Bool.and_false]
      · have p := good_plain g
        unfold plainN at p
        simp only [Bool.and_eq_true, Bool.not_eq_true', decide_eq_false_iff_not, decide_eq_true_eq] at p
        obtain ⟨p0, _, p2⟩ := p
        obtain ⟨c, r, rfl⟩ := List.exists_cons_of_ne_nil p0
        have hc := isDig_iff.mp (List.all_eq_true.mp p2 c (by simp))
        have : decide (c ∈ abc.cps.toList) = false := decide_eq_false fun z => by
          have := mem_abc.mp z
          omega
        simp only [isName, tx_l, List.all_cons, this, Bool.false_and, Bool.and_false]
  · rw [if_neg g, if_neg fun z => g z.1]; exact .inl rfl
theorem say_law (ws : List (List Nat)) : isSay (lawT ws) = isSay (readT ws) ∧ (isSay (readT ws) = true → lawT ws = readT ws) := by
  match ws with
  | [] => exact ⟨rfl, fun h => by cases h⟩
  | [w] => exact ⟨rfl, fun h => by cases h⟩
  | [w, x] =>
    rcases item_law (l := x) with e | ⟨h1, h2, _, _⟩
    · have : lawT [w, x] = readT [w, x] := by simp only [lawT, readT, List.map_cons, List.map_nil, e]
      exact ⟨by rw [this], fun _ => this⟩
    · have a : isSay (lawT [w, x]) = false := by simp only [lawT, List.map_cons, List.map_nil, isSay, h2, Bool.false_and]
      have b : isSay (readT [w, x]) = false := by simp only [readT, List.map_cons, List.map_nil, isSay, h1, Bool.false_and]
      exact ⟨by rw [a, b], fun z => by rw [b] at z; cases z⟩
  | [w, x, y] =>
    rcases item_law (l := x) with e | ⟨h1, h2, _, _⟩
    · rcases item_law (l := y) with e2 | ⟨g1, g2, g3, g4⟩
      · have : lawT [w, x, y] = readT [w, x, y] := by simp only [lawT, readT, List.map_cons, List.map_nil, e, e2]
        exact ⟨by rw [this], fun _ => this⟩
      · have a : isSay (lawT [w, x, y]) = false := by
          simp only [lawT, List.map_cons, List.map_nil, isSay, g2, g4]
          split <;> simp
        have b : isSay (readT [w, x, y]) = false := by
          simp only [readT, List.map_cons, List.map_nil, isSay, g1, g3]
          split <;> simp
        exact ⟨by rw [a, b], fun z => by rw [b] at z; cases z⟩
    · have a : isSay (lawT [w, x, y]) = false := by simp only [lawT, List.map_cons, List.map_nil, isSay, h2, Bool.false_and]
      have b : isSay (readT [w, x, y]) = false := by simp only [readT, List.map_cons, List.map_nil, isSay, h1, Bool.false_and]
      exact ⟨by rw [a, b], fun z => by rw [b] at z; cases z⟩
  | w :: x :: y :: z :: r =>
    have a : isSay (lawT (w :: x :: y :: z :: r)) = false := by simp only [lawT, List.map_cons, isSay, List.isEmpty_cons, ite_self, Bool.and_false]
    have b : isSay (readT (w :: x :: y :: z :: r)) = false := by simp only [readT, List.map_cons, isSay, List.isEmpty_cons, ite_self, Bool.and_false]
    exact ⟨by rw [a, b], fun z => by rw [b] at z; cases z⟩
end L3
namespace L3
open PySem PySem.Spec PyProof.Rows L2 TL
def decL (i : Int) : List Nat := tl (decS i)
theorem decS_tx (i : Int) : decS i = tx (decL i) := (mk_tl _).symm
def wNob : List Nat := [110, 111, 98, 111, 100, 121]
def wIs : List Nat := [105, 115]
def wSame : List Nat := [115, 97, 109, 101]
def wApart : List Nat := [97, 112, 97, 114, 116]
def sayW : Say → List (List Nat)
  | .nob i => [wNob, decL i]
  | .isn i l => [wIs, decL i, l]
  | .sam i j => [wSame, decL i, decL j]
  | .apa i j => [wApart, decL i, decL j]
def sayL (s : Say) : List Nat := joinL [32] (sayW s)
theorem tNob : ("nobody" : Str) = tx wNob := by decide +kernel
theorem tIs : ("is" : Str) = tx wIs := by decide +kernel
theorem tSame : ("same" : Str) = tx wSame := by decide +kernel
theorem tApart : ("apart" : Str) = tx wApart := by decide +kernel
theorem dec_facts : ∀ n : Nat, n < 24 → itemIn (decL (n : Int)) = .int (n : Int) ∧ (32 : Nat) ∉ decL (n : Int) ∧ (decL (n : Int)).length ≤ 2 ∧ PyData.strOk (tx (decL (n : Int))) = true := by
  intro n h
  have e : decL (n : Int) = numL n := tl_num n
  have hl : (numL n).length ≤ 2 := numL_len (by decide) (by omega)
  rw [e]
  refine ⟨?_, numL_free (by omega), hl, ?_⟩
  · have all : ∀ m : Nat, m < 24 → goodN (numL m) = true ∧ valN (numL m) = (m : Int) := by decide +kernel
    obtain ⟨g, v⟩ := all n h
    unfold itemIn numIn
    rw [if_pos ⟨g, by rw [v]; omega⟩, v]
  · rw [stok_iff]
    intro c hc
    have := numL_digits n c hc
    omega
theorem name_item {l : List Nat} (h : NameL l) : itemIn l = .str (tx l) := by
  have g : goodN l = false := by
    unfold goodN plainN
    obtain ⟨h1, _, h3⟩ := h
    cases l with
    | nil => simp at h1
    | cons c r =>
      have hc := h3 c List.mem_cons_self
      have : isDig c = false := by
        cases z : isDig c with
        | false => rfl
        | true => have := isDig_iff.mp z; omega
      rw [List.all_cons, this]; simp
  unfold itemIn numIn
  rw [if_neg fun z => by rw [g] at z; cases z.1]
theorem name_free {l : List Nat} (h : NameL l) : 32 ∉ l := fun z => by have := h.2.2 32 z; omega
theorem say_words {s : Say} (h : s.ok 24) : wordsL (sayL s) = sayW s ∧ readT (sayW s) = s.d := by
  have D : ∀ i : Int, 0 ≤ i → i < 24 → itemIn (decL i) = .int i ∧ (32 : Nat) ∉ decL i := fun i h0 h1 => by
    have z := dec_facts i.toNat (by omega)
    rw [Int.toNat_of_nonneg h0] at z
    exact ⟨z.1, z.2.1⟩
  cases s with
  | nob i =>
    obtain ⟨h0, h1⟩ := h
    refine ⟨words_join (by simp [sayW]) fun w hw => ?_, ?_⟩
    · simp only [sayW, List.mem_cons, List.not_mem_nil, or_false] at hw
      rcases hw with rfl | rfl
      · decide
      · exact (D i h0 h1).2
    · simp only [sayW, readT, List.map_cons, List.map_nil, (D i h0 h1).1, Say.d, ← tNob]
  | isn i l =>
    obtain ⟨h0, h1, h2⟩ := h
    refine ⟨words_join (by simp [sayW]) fun w hw => ?_, ?_⟩
    · simp only [sayW, List.mem_cons, List.not_mem_nil, or_false] at hw
      rcases hw with rfl | rfl | rfl
      · decide
      · exact (D i h0 h1).2
      · exact name_free h2
    · simp only [sayW, readT, List.map_cons, List.map_nil, (D i h0 h1).1, name_item h2, Say.d, ← tIs]
  | sam i j =>
    obtain ⟨h0, h1, h2, h3, _⟩ := h
    refine ⟨words_join (by simp [sayW]) fun w hw => ?_, ?_⟩
    · simp only [sayW, List.mem_cons, List.not_mem_nil, or_false] at hw
      rcases hw with rfl | rfl | rfl
      · decide
      · exact (D i h0 h1).2
      · exact (D j h2 h3).2
    · simp only [sayW, readT, List.map_cons, List.map_nil, (D i h0 h1).1, (D j h2 h3).1, Say.d, ← tSame]
  | apa i j =>
    obtain ⟨h0, h1, h2, h3, _⟩ := h
    refine ⟨words_join (by simp [sayW]) fun w hw => ?_, ?_⟩
    · simp only [sayW, List.mem_cons, List.not_mem_nil, or_false] at hw
      rcases hw with rfl | rfl | rfl
      · decide
      · exact (D i h0 h1).2
      · exact (D j h2 h3).2
    · simp only [sayW, readT, List.map_cons, List.map_nil, (D i h0 h1).1, (D j h2 h3).1, Say.d, ← tApart]
theorem say_reads {s : Say} (h : s.ok 24) : readT (wordsL (sayL s)) = s.d := by rw [(say_words h).1, (say_words h).2]
end L3
namespace L3
open PySem PySem.Spec PyProof.Rows L2 TL
theorem tx_nil {l : List Nat} : tx l = "" ↔ l = [] := by
  constructor
  · intro h; exact tx_inj (l' := []) h
  · rintro rfl; rfl
section
variable {l : List Nat} {m : Int}
theorem num_e (h : tx l = "") : numIn l m = none := by
  have := tx_nil.mp h
  subst this; rfl
theorem num_l (h : 2 < l.length) : numIn l m = none := if_neg fun z => by
  have p := good_plain z.1
  unfold plainN at p
  simp only [Bool.and_eq_true, decide_eq_true_eq] at p
  omega
theorem num_d (h : l.all isDig = false) : numIn l m = none := if_neg fun z => by
  have p := good_plain z.1
  unfold plainN at p
  simp [h] at p
theorem tx_take {l : List Nat} : tx (l.take 1) = "0" ↔ l.take 1 = [48] := ⟨fun h => tx_inj (l' := [48]) h, fun h => by rw [h]; decide +kernel⟩
theorem plain_of (h0 : ¬ tx l = "") (h1 : ¬ 2 < l.length) (h2 : l.all isDig = true) : plainN l = true := by
  unfold plainN
  rw [decide_eq_false fun z => h0 (tx_nil.mpr z), decide_eq_true (show l.length ≤ 2 by omega), h2]; rfl
theorem num_z (h1 : l.length = 2) (h : tx (l.take 1) = "0") : numIn l m = none := if_neg fun z => by
  have g := z.1
  unfold goodN at g
  rw [decide_eq_true (tx_take.mp h), decide_eq_false (show ¬ l.length = 1 by omega)] at g
  simp at g
theorem good_of (h0 : ¬ tx l = "") (h1 : ¬ 2 < l.length) (h2 : l.all isDig = true) (h : ¬ l.length = 2 ∨ ¬ tx (l.take 1) = "0") : goodN l = true := by
  unfold goodN
  rw [plain_of h0 h1 h2, Bool.true_and]
  rcases h with h | h
  · have : l.length ≠ 0 := fun z => h0 (tx_nil.mpr (List.length_eq_zero_iff.mp z))
    rw [decide_eq_true (show l.length = 1 by omega)]; rfl
  · rw [decide_eq_false (p := l.take 1 = [48]) fun z => h (tx_take.mpr z)]; simp
theorem num_s (g : goodN l = true) (h : valN l ≤ m) : numIn l m = some (valN l) := if_pos ⟨g, h⟩
theorem num_b (g : goodN l = true) (h : ¬ valN l ≤ m) : numIn l m = none := if_neg fun z => h z.2
theorem qd {Q : D → Mm → Prop} {c d : D} {M : Mm} (q : Q c M) (e : c = d) : Q d M := e ▸ q
theorem lf_ixX0 {M : Mm} {Q : D → Mm → Prop} (h : 0 < l.length) (h2 : l.length ≤ 1000000) (q : Q (.str (tx (l.take 1))) M) : pIx (.str (tx l)) (.int 0) M Q := by
  obtain ⟨c, r, rfl⟩ := List.exists_cons_of_ne_nil (List.ne_nil_of_length_pos h)
  exact ⟨by rw [tx_len, sizeLine_eq]; omega, c, by rw [tx_l]; exact atI_nat (xs := c :: r) (j := 0) rfl, q⟩
theorem lf_intTi {M : Mm} {Q : D → Mm → Prop} {i : Int} (q : Q (.int i) M) : pIntT (.int i) M Q := .inl q
theorem lf_intTb {M : Mm} {Q : D → Mm → Prop} {b : Bool} (q : Q (.int (if b then 1 else 0)) M) : pIntT (.bl b) M Q := .inl q
end
def itT : D → List Nat
  | .int i => decL i
  | .str s => tl s
  | _ => []
def sayI (s : Say) : List D := match s with
  | .nob i => [.str "nobody", .int i]
  | .isn i l => [.str "is", .int i, .str (tx l)]
  | .sam i j => [.str "same", .int i, .int j]
  | .apa i j => [.str "apart", .int i, .int j]
theorem sayI_d (s : Say) : s.d = .tup (sayI s) := by cases s <;> rfl
theorem sayI_mem {s : Say} (h : s.ok 24) {d : D} (hd : d ∈ sayI s) : (∃ i, d = .int i ∧ 0 ≤ i ∧ i < 24) ∨ ∃ w, d = .str w := by
  cases s <;> simp only [sayI, List.mem_cons, List.not_mem_nil, or_false] at hd
  case nob i => rcases hd with rfl | rfl; exact .inr ⟨_, rfl⟩; exact .inl ⟨_, rfl, h.1, h.2⟩
  case isn i l => rcases hd with rfl | rfl | rfl; exact .inr ⟨_, rfl⟩; exact .inl ⟨_, rfl, h.1, h.2.1⟩; exact .inr ⟨_, rfl⟩
  case sam i j => rcases hd with rfl | rfl | rfl; exact .inr ⟨_, rfl⟩; exact .inl ⟨_, rfl, h.1, h.2.1⟩; exact .inl ⟨_, rfl, h.2.2.1, h.2.2.2.1⟩
  case apa i j => rcases hd with rfl | rfl | rfl; exact .inr ⟨_, rfl⟩; exact .inl ⟨_, rfl, h.1, h.2.1⟩; exact .inl ⟨_, rfl, h.2.2.1, h.2.2.2.1⟩
theorem sayI_W (s : Say) : (sayI s).map itT = sayW s := by
  cases s <;> simp only [sayI, sayW, List.map_cons, List.map_nil, itT, tNob, tIs, tSame, tApart] <;> rfl
theorem sayW_len (s : Say) : (sayW s).length ≤ 3 := by cases s <;> simp [sayW]
theorem sayW_ok {s : Say} (h : s.ok 24) : ∀ w ∈ sayW s, PyData.strOk (tx w) = true ∧ w.length ≤ 8 := by
  have D : ∀ i : Int, 0 ≤ i → i < 24 → PyData.strOk (tx (decL i)) = true ∧ (decL i).length ≤ 8 := fun i h0 h1 => by
    have z := dec_facts i.toNat (by omega)
    rw [Int.toNat_of_nonneg h0] at z
    exact ⟨z.2.2.2, by omega⟩
  intro w hw
  cases s <;> simp only [sayW, List.mem_cons, List.not_mem_nil, or_false] at hw
  case nob i => rcases hw with rfl | rfl; decide +kernel; exact D i h.1 h.2
  case isn i l => rcases hw with rfl | rfl | rfl; decide +kernel; exact D i h.1 h.2.1; exact ⟨nameL_ok h.2.2, h.2.2.2.1⟩
  case sam i j => rcases hw with rfl | rfl | rfl; decide +kernel; exact D i h.1 h.2.1; exact D j h.2.2.1 h.2.2.2.1
  case apa i j => rcases hw with rfl | rfl | rfl; decide +kernel; exact D i h.1 h.2.1; exact D j h.2.2.1 h.2.2.2.1
theorem joinL_len {n : Nat} : ∀ {ws : List (List Nat)}, (∀ w ∈ ws, w.length ≤ n) → (joinL [32] ws).length ≤ ws.length * (n + 1)
  | [], _ => by simp [joinL]
  | [p], h => by have := h p (by simp); simp [joinL]; omega
  | p :: q :: r, h => by
    have h1 := h p (by simp)
    have ih := joinL_len (ws := q :: r) fun w hw => h w (List.mem_cons_of_mem _ hw)
    show (p ++ ([32] ++ joinL [32] (q :: r))).length ≤ _
    simp only [List.length_append, List.length_cons, List.length_nil] at ih ⊢
    have : (r.length + 1 + 1) * (n + 1) = (r.length + 1) * (n + 1) + (n + 1) := Nat.succ_mul _ _
    omega
theorem joinL_ok : ∀ {ws : List (List Nat)}, (∀ w ∈ ws, PyData.strOk (tx w) = true) → PyData.strOk (tx (joinL [32] ws)) = true
  | [], _ => by decide +kernel
  | [p], h => h p (by simp)
  | p :: q :: r, h => stok_app (h p (by simp)) (stok_app (by decide +kernel) (joinL_ok fun w hw => h w (List.mem_cons_of_mem _ hw)))
theorem say_tx {s : Say} (h : s.ok 24) : PyData.strOk (tx (sayL s)) = true ∧ (sayL s).length ≤ 27 := by
  refine ⟨joinL_ok fun w hw => (sayW_ok h w hw).1, ?_⟩
  have h1 := joinL_len (n := 8) fun w hw => (sayW_ok h w hw).2
  have h2 := sayW_len s
  show (joinL [32] (sayW s)).length ≤ 27
  have := Nat.mul_le_mul_right (8 + 1) h2
  omega
theorem sum_small : ∀ {ws : List (List Nat)}, (∀ w ∈ ws, w.length ≤ 8) → ((ws.map tx).map (·.length)).sum ≤ ws.length * 8
  | [], _ => Nat.le_refl _
  | p :: r, h => by
    have h1 := h p (by simp)
    have ih := sum_small (ws := r) fun w hw => h w (List.mem_cons_of_mem _ hw)
    simp only [List.map_cons, List.sum_cons, List.length_cons] at ih ⊢
    have e : (tx p).length = p.length := tx_len p
    omega
end L3
namespace L3
section
variable {α : Type} {p : α → Bool} {l : List α} {R : Bool → Prop}
theorem lf_allm2 (h : R (l.all p)) : ∃ bs : List Bool, D.lst (l.map fun c => .bl (p c)) = .lst (bs.map .bl) ∧ ∃ c, D.bl (bs.all id) = .bl c ∧ R c := ⟨l.map p, by rw [List.map_map]; rfl, _, by rw [List.all_map]; rfl, h⟩
end
end L3
namespace L3
open PySem PySem.Spec PyProof.Rows L2 TL
theorem item_sm {n : Nat} {l : List Nat} (h : PyData.strOk (tx l) = true ∧ l.length ≤ 100000) : D.sm n (itemIn l) = true := by
  unfold itemIn
  cases numIn l 23 with
  | none => exact sm_str h.1 (by rw [tx_l]; omega)
  | some i => exact sm_int
theorem read_sm {w0 : List Nat} {r : List (List Nat)} (h : ∀ w ∈ w0 :: r, PyData.strOk (tx w) = true ∧ w.length ≤ 100000) (hr : r.length ≤ 100000) : D.sm 8 (.tup (.str (tx w0) :: r.map itemIn)) = true := by
  have h0 := h w0 List.mem_cons_self
  exact sm_tup (by rw [List.length_cons, List.length_map]; omega) (sms_cons (sm_str h0.1 (by rw [tx_l]; omega)) (sms_of fun w hw => item_sm (h w (List.mem_cons_of_mem _ hw))))
theorem lawIt_sm {n : Nat} {l : List Nat} (h : PyData.strOk (tx l) = true ∧ l.length ≤ 100000) : D.sm n (lawIt l) = true := by
  unfold lawIt
  split
  · exact sm_int
  · exact sm_str h.1 (by rw [tx_l]; omega)
theorem law_sm {w0 : List Nat} {r : List (List Nat)} (h : ∀ w ∈ w0 :: r, PyData.strOk (tx w) = true ∧ w.length ≤ 100000) (hr : r.length ≤ 100000) : D.sm 8 (.tup (.str (tx w0) :: r.map lawIt)) = true := by
  have h0 := h w0 List.mem_cons_self
  exact sm_tup (by rw [List.length_cons, List.length_map]; omega) (sms_cons (sm_str h0.1 (by rw [tx_l]; omega)) (sms_of fun w hw => lawIt_sm (h w (List.mem_cons_of_mem _ hw))))
end L3
namespace L3
open PySem PySem.Spec PyProof.Rows L2 TL
theorem lf_ixG {α : Type} {f : α → D} {l : List α} {j : Nat} {x : α} {M : Mm} {Q : D → Mm → Prop} (h : l[j]? = some x) (q : Q (f x) M) : pIx (.lst (l.map f)) (.int (j : Int)) M Q :=
  ⟨f x, atI_nat (by rw [List.getElem?_map, h]; rfl), q⟩
def lawL : List (List Nat) → List D
  | [] => []
  | w :: r => .str (tx w) :: r.map lawIt
theorem lawL_len : ∀ ws : List (List Nat), (lawL ws).length = ws.length
  | [] => rfl
  | w :: r => by simp [lawL]
theorem lawL_0 {ws : List (List Nat)} {j : Nat} {w : List Nat} (h : ws[j]? = some w) (z : ¬ 0 < (j : Int)) : (lawL ws).take (j + 1) = (lawL ws).take j ++ [.str (tx w)] := by
  obtain rfl : j = 0 := by omega
  cases ws with
  | nil => cases h
  | cons a r => simp only [List.getElem?_cons_zero, Option.some.injEq] at h; subst h; rfl
theorem lawL_s {ws : List (List Nat)} {j : Nat} {w : List Nat} (h : ws[j]? = some w) (z : 0 < (j : Int)) : (lawL ws).take (j + 1) = (lawL ws).take j ++ [lawIt w] := by
  refine take_more ?_
  cases ws with
  | nil => simp at h
  | cons a r =>
    cases j with
    | zero => omega
    | succ j =>
      simp only [List.getElem?_cons_succ] at h
      simp only [lawL, List.getElem?_cons_succ, List.getElem?_map, h, Option.map_some]
theorem lawIt_g {w : List Nat} (g : goodN w = true) : lawIt w = .int (valN w) := if_pos g
theorem lawIt_n {w : List Nat} (g : ¬ goodN w = true) : lawIt w = .str (tx w) := if_neg g
theorem bad_e {w : List Nat} (h : tx w = "") : ¬ goodN w = true := fun g => by
  have := tx_nil.mp h
  subst this; cases g
theorem bad_l {w : List Nat} (h : ¬ (w.length : Int) ≤ 2) : ¬ goodN w = true := fun g => by
  have p := good_plain g
  unfold plainN at p
  simp only [Bool.and_eq_true, decide_eq_true_eq] at p
  omega
theorem bad_d {w : List Nat} (h : w.all isDig = false) : ¬ goodN w = true := fun g => by
  have p := good_plain g
  unfold plainN at p
  simp [h] at p
theorem bad_z {w : List Nat} (h1 : ¬ (w.length : Int) = 1) (h : tx (w.take 1) = "0") : ¬ goodN w = true := fun g => by
  unfold goodN at g
  rw [decide_eq_true (tx_take.mp h), decide_eq_false (show ¬ w.length = 1 by omega)] at g
  simp at g
theorem good_1 {w : List Nat} (h0 : ¬ tx w = "") (h2 : w.all isDig = true) (h : (w.length : Int) = 1) : goodN w = true := good_of h0 (by omega) h2 (.inl (by omega))
theorem good_2 {w : List Nat} (h0 : ¬ tx w = "") (h1 : (w.length : Int) ≤ 2) (h2 : w.all isDig = true) (h : ¬ tx (w.take 1) = "0") : goodN w = true := good_of h0 (by omega) h2 (.inr h)
theorem lawL_tup {ws : List (List Nat)} (h : ws ≠ []) : D.tup (lawL ws) = lawT ws := by
  cases ws with
  | nil => exact absurd rfl h
  | cons w r => rfl
end L3
namespace L3
open PySem PySem.Spec PyProof.Rows L2 TL
section
variable {M : Mm} {p : Addr} {ws : List (List Nat)} {j : Nat} {w : List Nat}
theorem lawL_bad (h : ws[j]? = some w) (b : ¬ goodN w = true) : (M.put p (.l ((lawL ws).take j))).put p (.l ((lawL ws).take j ++ [.str (tx w)])) = M.put p (.l ((lawL ws).take (j + 1))) := by
  rw [Mm.put_put]
  by_cases z : 0 < (j : Int)
  · rw [lawL_s h z, lawIt_n b]
  · rw [lawL_0 h z]
theorem lawL_first (h : ws[j]? = some w) (z : ¬ 0 < (j : Int)) : (M.put p (.l ((lawL ws).take j))).put p (.l ((lawL ws).take j ++ [.str (tx w)])) = M.put p (.l ((lawL ws).take (j + 1))) := by
  rw [Mm.put_put, lawL_0 h z]
theorem lawL_good (h : ws[j]? = some w) (b : goodN w = true) (z : 0 < (j : Int)) : (M.put p (.l ((lawL ws).take j))).put p (.l ((lawL ws).take j ++ [.int (valN w)])) = M.put p (.l ((lawL ws).take (j + 1))) := by
  rw [Mm.put_put, lawL_s h z, lawIt_g b]
end
end L3
namespace L3
open PySem PySem.Spec PyProof.Rows L2 TL
theorem say_sm7 {s : Say} (h : s.ok 24) {n : Nat} : D.sm (n + 1) s.d = true := by
  rw [sayI_d]
  refine sm_tup (by have := sayW_len s; rw [← sayI_W, List.length_map] at this; omega) (D.sms_of fun d hd => ?_)
  cases s <;> simp only [sayI, List.mem_cons, List.not_mem_nil, or_false] at hd
  case nob i => rcases hd with rfl | rfl; exact sm_str (by decide +kernel) (by decide +kernel); exact sm_int
  case isn i l => rcases hd with rfl | rfl | rfl; exact sm_str (by decide +kernel) (by decide +kernel); exact sm_int; exact sm_str (nameL_ok h.2.2) (by have := h.2.2.small; rw [tx_l]; omega)
  case sam i j => rcases hd with rfl | rfl | rfl; exact sm_str (by decide +kernel) (by decide +kernel); exact sm_int; exact sm_int
  case apa i j => rcases hd with rfl | rfl | rfl; exact sm_str (by decide +kernel) (by decide +kernel); exact sm_int; exact sm_int
theorem sayL_sm {s : Say} (h : s.ok 24) {n : Nat} : D.sm n (.str (tx (sayL s))) = true := sm_str (say_tx h).1 (by have := (say_tx h).2; rw [tx_l]; omega)
theorem readT_sm {l : List Nat} (ok : PyData.strOk (tx l) = true) (hl : l.length ≤ 100000) {n : Nat} : D.sm (n + 1) (readT (wordsL l)) = true := by
  obtain ⟨w0, r, hw⟩ := words_cons l
  have hlen := words_len (l := l)
  have hm : ∀ w ∈ w0 :: r, PyData.strOk (tx w) = true ∧ w.length ≤ 100000 := fun w h => by
    have z := words_mem (l := l) (by rw [hw]; exact h) ok
    exact ⟨z.1, by omega⟩
  rw [hw] at hlen ⊢
  rw [List.length_cons] at hlen
  have h0 := hm w0 List.mem_cons_self
  exact sm_tup (by rw [List.length_cons, List.length_map]; omega) (sms_cons (sm_str h0.1 (by rw [tx_l]; omega)) (sms_of fun w hw => item_sm (hm w (List.mem_cons_of_mem _ hw))))
theorem readT_tup (l : List Nat) : ∃ ds, readT (wordsL l) = .tup ds := by
  obtain ⟨w0, r, hw⟩ := words_cons l
  rw [hw]; exact ⟨_, rfl⟩
def oddT : List D := [.non, .int 3, .lst [.str "nobody 0"], .tup [.str "nobody", .int 0], .str "", .str "nobody", .str "nobody 24", .str "same 1 1", .str "is 0 abcdefghi", .str "same 01 2", .str "nobody  1", .str "is 1 2"]
theorem odd_str {s : Str} (h : PyData.strOk s = true ∧ s.cps.toList.length ≤ 100000 ∧ isSay (readT (wordsL s.cps.toList)) = false) : ∃ l, D.str s = .str (tx l) ∧ PyData.strOk (tx l) = true ∧ l.length ≤ 100000 ∧ isSay (readT (wordsL l)) = false := ⟨s.cps.toList, by rw [show tx s.cps.toList = s from TL.mk_tl s], by rw [show tx s.cps.toList = s from TL.mk_tl s]; exact h.1, h.2.1, h.2.2⟩
theorem odd_ref {d : D} (h : d ∈ oddT) : (∀ s, d ≠ .str s) ∨ ∃ l, d = .str (tx l) ∧ PyData.strOk (tx l) = true ∧ l.length ≤ 100000 ∧ isSay (readT (wordsL l)) = false := by
  simp only [oddT, List.mem_cons, List.not_mem_nil, or_false] at h
  rcases h with rfl | rfl | rfl | rfl | rfl | rfl | rfl | rfl | rfl | rfl | rfl | rfl
  · exact .inl fun s => by simp
  · exact .inl fun s => by simp
  · exact .inl fun s => by simp
  · exact .inl fun s => by simp
  all_goals exact .inr (odd_str (by decide +kernel))
end L3
/-! ### 82. Sayings told from data; albums refused -/
namespace L3
open PySem PySem.Spec PyProof.Rows L2
theorem tx_self (s : Str) : tx s.cps.toList = s := TL.mk_tl s
theorem name_of {v : D} (h : isName v = true) : ∃ l, v = .str (tx l) ∧ NameL l := by
  cases v with
  | str s =>
    simp only [isName, Bool.and_eq_true, decide_eq_true_eq] at h
    exact ⟨s.cps.toList, by rw [tx_self], h.1.1, h.1.2, fun c hc => mem_abc.mp (by simpa using List.all_eq_true.mp h.2 c hc)⟩
  | _ => cases h
theorem say_of {v : D} (h : isSay v = true) : ∃ s : Say, v = s.d ∧ s.ok 24 := by
  unfold isSay at h
  split at h
  · rename_i w b rest
    rw [Bool.and_eq_true] at h
    obtain ⟨hb, h⟩ := h
    obtain ⟨i, rfl, i0, i1⟩ := isNum_int hb
    by_cases hw : w = "nobody"
    · rw [if_pos hw] at h
      subst hw
      cases rest with
      | nil => exact ⟨.nob i, rfl, i0, by omega⟩
      | cons _ _ => cases h
    · rw [if_neg hw] at h
      cases rest with
      | nil => cases h
      | cons c t =>
       cases t with
       | cons _ _ => cases h
       | nil =>
        dsimp only at h
        by_cases hi : w = "is"
        · rw [if_pos hi] at h
          subst hi
          obtain ⟨l, rfl, hl⟩ := name_of h
          exact ⟨.isn i l, rfl, i0, by omega, hl⟩
        · rw [if_neg hi, Bool.and_eq_true, Bool.and_eq_true, decide_eq_true_eq, Bool.not_eq_true'] at h
          obtain ⟨⟨h1, h2⟩, h3⟩ := h
          obtain ⟨j, rfl, j0, j1⟩ := isNum_int h2
          have ne : i ≠ j := fun e => by rw [e, eq_ii] at h3; simp at h3
          rcases h1 with rfl | rfl
          · exact ⟨.sam i j, rfl, i0, by omega, j0, by omega, ne⟩
          · exact ⟨.apa i j, rfl, i0, by omega, j0, by omega, ne⟩
  · cases h
def okV (m : Nat) (v : D) : Prop := ∃ s : Say, v = s.d ∧ s.ok m
def picsS : Say → List Int
  | .nob i => [i]
  | .isn i _ => [i]
  | .sam i j => [i, j]
  | .apa i j => [i, j]
theorem ok_pics {s : Say} {m : Nat} (h : s.ok 24) (hp : ((picsS s).all fun c => decide (c < (m : Int))) = true) : s.ok m := by
  cases s <;> simp only [picsS, List.all_cons, List.all_nil, Bool.and_true, Bool.and_eq_true, decide_eq_true_eq] at hp
  case nob i => exact ⟨h.1, hp⟩
  case isn i l => exact ⟨h.1, hp, h.2.2⟩
  case sam i j => exact ⟨h.1, hp.1, h.2.2.1, hp.2, h.2.2.2.2⟩
  case apa i j => exact ⟨h.1, hp.1, h.2.2.1, hp.2, h.2.2.2.2⟩
theorem pics_ok {s : Say} {m : Nat} (h : s.ok m) : ((picsS s).all fun c => decide (c < (m : Int))) = true := by
  cases s <;> simp only [picsS, List.all_cons, List.all_nil, Bool.and_true, Bool.and_eq_true, decide_eq_true_eq]
  case nob i => exact h.2
  case isn i l => exact h.2.1
  case sam i j => exact ⟨h.2.1, h.2.2.2.1⟩
  case apa i j => exact ⟨h.2.1, h.2.2.2.1⟩
theorem d_pics {s t : Say} (h : s.d = t.d) : picsS s = picsS t := by
  cases s <;> cases t <;> simp only [Say.d, D.tup.injEq, List.cons.injEq, D.str.injEq, D.int.injEq, reduceCtorEq, and_true, and_false] at h <;> simp only [picsS, h]
  all_goals first
    | (obtain ⟨h1, _⟩ := h; exact absurd h1 (by decide +kernel))
    | (exact absurd h (by decide +kernel))
    | skip
theorem not_okV {s : Say} {m : Nat} (hp : ((picsS s).all fun c => decide (c < (m : Int))) = false) : ¬ okV m s.d := by
  rintro ⟨t, e, h⟩
  rw [d_pics e, pics_ok h] at hp
  cases hp
theorem okV_say {m : Nat} {v : D} (hm : m ≤ 24) (h : okV m v) : isSay v = true := by
  obtain ⟨s, rfl, hs⟩ := h
  exact (say_sm hs (by omega)).2
theorem enum_getV {vs : List D} {j : Nat} {d : D} (hd : (enumD 0 vs)[j]? = some d) : ∃ v, vs[j]? = some v ∧ d = .tup [.int (j : Int), v] := by
  cases z : vs[j]? with
  | none =>
    have := List.getElem?_eq_none_iff.mp z
    rw [List.getElem?_eq_none_iff.mpr (by rw [enumD_length]; exact this)] at hd; cases hd
  | some s => exact ⟨s, rfl, by
      have := enumD_get (n := 0) (ds := vs) (i := j) (d := s) z
      rw [this, Nat.zero_add] at hd; cases hd; rfl⟩
theorem okVs {m : Nat} : ∀ {vs : List D}, (∀ v ∈ vs, okV m v) → ∃ says : List Say, vs = says.map Say.d ∧ ∀ s ∈ says, s.ok m
  | [], _ => ⟨[], rfl, by simp⟩
  | v :: vs, h => by
    obtain ⟨s, rfl, hs⟩ := h v List.mem_cons_self
    obtain ⟨says, rfl, hss⟩ := okVs fun v hv => h v (List.mem_cons_of_mem _ hv)
    exact ⟨s :: says, rfl, fun t ht => by
      rcases List.mem_cons.mp ht with rfl | ht
      · exact hs
      · exact hss t ht⟩
theorem okVs_of {m : Nat} {says : List Say} (h : ∀ s ∈ says, s.ok m) : ∀ v ∈ says.map Say.d, okV m v := fun v hv => by
  obtain ⟨s, hs, rfl⟩ := List.mem_map.mp hv
  exact ⟨s, rfl, h s hs⟩
end L3
namespace L3
theorem first_uniq {m : Nat} {vs : List D} {j j2 : Nat} {u u2 : D} (h : vs[j]? = some u) (n : ¬ okV m u) (g : ∀ t ∈ vs.take j, okV m t) (h2 : vs[j2]? = some u2) (n2 : ¬ okV m u2) (g2 : ∀ t ∈ vs.take j2, okV m t) : j = j2 := by
  have key : ∀ {a b : Nat} {x : D}, vs[a]? = some x → a < b → x ∈ vs.take b := fun {a b x} hx hl => by
    refine List.mem_of_getElem? (i := a) ?_
    rw [List.getElem?_take, if_pos hl]; exact hx
  rcases Nat.lt_trichotomy j j2 with z | z | z
  · exact absurd (g2 _ (key h z)) n
  · exact z
  · exact absurd (g _ (key h2 z)) n2
end L3
/-! ### 84. What a leaf begins with -/
namespace L3
open PySem PySem.Spec PyProof.Rows L2
theorem gEx {α : Type} {p : α → Prop} (h : ∃ x, p x) : ∃ x, p x := h
theorem gAnd {a b : Prop} (h : a ∧ b) : a ∧ b := h
theorem gOr {a b : Prop} (h : a ∨ b) : a ∨ b := h
theorem gS {S : SpD} {ds : List D} {M : Mm} {Q : D → Mm → Prop} {E : Str → List (Str × D) → Mm → Prop} (h : S ds M Q E) : S ds M Q E := h
theorem gInF {x y : D} {M : Mm} {Q : D → Mm → Prop} (h : pIn false x y M Q) : pIn false x y M Q := h
theorem gInT {x y : D} {M : Mm} {Q : D → Mm → Prop} (h : pIn true x y M Q) : pIn true x y M Q := h
theorem g_pI2 {a0 a1 a2 a3 a4 a5} (h : pI2 a0 a1 a2 a3 a4 a5) : pI2 a0 a1 a2 a3 a4 a5 := h
theorem g_pAbs {a0 a1 a2} (h : pAbs a0 a1 a2) : pAbs a0 a1 a2 := h
theorem g_pAdd {a0 a1 a2 a3} (h : pAdd a0 a1 a2 a3) : pAdd a0 a1 a2 a3 := h
theorem g_AttK {a0 a1 a2 a3 a4 a5} (h : AttK a0 a1 a2 a3 a4 a5) : AttK a0 a1 a2 a3 a4 a5 := h
theorem g_pEq {a0 a1 a2 a3} (h : pEq a0 a1 a2 a3) : pEq a0 a1 a2 a3 := h
theorem g_pFldS {a0 a1 a2 a3 a4 a5 a6} (h : pFldS a0 a1 a2 a3 a4 a5 a6) : pFldS a0 a1 a2 a3 a4 a5 a6 := h
theorem g_pIntT {a0 a1 a2} (h : pIntT a0 a1 a2) : pIntT a0 a1 a2 := h
theorem g_pIsB {a0 a1 a2 a3 a4} (h : pIsB a0 a1 a2 a3 a4) : pIsB a0 a1 a2 a3 a4 := h
theorem g_pIs {a0 a1 a2 a3} (h : pIs a0 a1 a2 a3) : pIs a0 a1 a2 a3 := h
theorem g_pIsi {a0 a1 a2} (h : pIsi a0 a1 a2) : pIsi a0 a1 a2 := h
theorem g_pIsNot {a0 a1 a2 a3} (h : pIsNot a0 a1 a2 a3) : pIsNot a0 a1 a2 a3 := h
theorem g_pIx {a0 a1 a2 a3} (h : pIx a0 a1 a2 a3) : pIx a0 a1 a2 a3 := h
theorem g_pIy {a0 a1 a2 a3} (h : pIy a0 a1 a2 a3) : pIy a0 a1 a2 a3 := h
theorem g_pLen {a0 a1 a2} (h : pLen a0 a1 a2) : pLen a0 a1 a2 := h
theorem g_pMul {a0 a1 a2 a3} (h : pMul a0 a1 a2 a3) : pMul a0 a1 a2 a3 := h
theorem g_pNe {a0 a1 a2 a3} (h : pNe a0 a1 a2 a3) : pNe a0 a1 a2 a3 := h
theorem g_pO {a0 a1 a2} (h : pO a0 a1 a2) : pO a0 a1 a2 := h
theorem g_pSetA {a0 a1 a2 a3 a4} (h : pSetA a0 a1 a2 a3 a4) : pSetA a0 a1 a2 a3 a4 := h
theorem g_pSet {a0 a1 a2 a3 a4} (h : pSet a0 a1 a2 a3 a4) : pSet a0 a1 a2 a3 a4 := h
theorem g_pSl {a0 a1 a2 a3 a4} (h : pSl a0 a1 a2 a3 a4) : pSl a0 a1 a2 a3 a4 := h
theorem g_pSplit {a0 a1 a2 a3} (h : pSplit a0 a1 a2 a3) : pSplit a0 a1 a2 a3 := h
theorem g_pStrC {a0 a1 a2} (h : pStrC a0 a1 a2) : pStrC a0 a1 a2 := h
end L3
/-! ### 83. len of an own instance; list(..) as a new list; insert; max -/
namespace L3
open PySem PySem.Spec PyProof.Rows L2 PySem.W
section
variable {X : Cx} {CX : CXT} {k : Nat} {C dx a g : Addr} {fs : List (Str × V)} {fd : FuncData} {ps : List Str} {sp : Sp}
theorem lenown_ok {pins : List (Addr × Obj)} {σ : L2.St} {H : Hp} {s : Shared} {Q : VK} (I : Inv X pins σ H s) (ea : H a = some (.ins C dx fs)) (hm : Meth X.K C "__len__" g)
    (Fn : FnOk X.prog X.w X.K X.mg X.base CX k g fd ps sp) (hr : Room (k + 1) X.A) (hb : Binds X.K fd ps []) (hx : Passes CX X.nox (fun _ _ _ => False)) (h : sp [.ref a] H (fun v H' => ∃ n : Int, v = .int n ∧ 0 ≤ n ∧ n < 2 ^ 63 ∧ Q (.int n) H') (fun _ _ _ => False)) :
    wpAny (model X.prog X.w) X.A (call (.builtin "len") [.ref a]) (EP X pins σ Q) X.xe s := by
  obtain ⟨mA, O, _, _, _, _⟩ := ins_get I.hok ea
  obtain ⟨od, J, _⟩ := O.look
  have hl : ([Value.ref a] : List Value).length = ps.length := by rw [← Fn.len _ _ _ _ h]; rfl
  refine Calls.call_function_entry PySem.kind_len PySem.plain_len PySem.entry_len (PySem.args_len1 _) ?_
  unfold Builtin.«len»
  refine wpAny_bind (m := oneArg "len" _) (wpAny_pure ?_)
  refine wpAny_bind (m := callSpecial? (.ref a) (Str.ofString "__len__")) (special_fn I.kIn J hm.at_ (beq_iff_eq.mp hm.fn) ?_)
  refine wpAny_call (codeAny_mono (Fn.run X.A.in1 X.stack s H ⟨[.ref a], []⟩ [.ref a] [.ref a] _ _ hr.in1 I.env0.in1 (hb s [.ref a] I.kIn hl) (.cons rfl .nil) h) fun r s' hq => ?_)
  cases r with
  | error er => exact False.elim (hx pins σ H s er s' (I.wish _) hq)
  | ok fl =>
    cases fl with
    | ret u =>
      obtain ⟨v, H', I3, rv, n, rfl, h0, h1, q⟩ := I.after hq
      obtain ⟨t, rfl⟩ := rv
      refine wpAny_bind (wpAny_holding (wpAny_pure ?_))
      refine wpAny_bind (wpAny_letGo ?_)
      show wpAny _ _ (if n < 0 then _ else _) _ _ _
      rw [if_neg (by omega)]
      show wpAny _ _ (if n ≥ 2 ^ 63 then _ else _) _ _ _
      rw [if_neg (by omega)]
      exact wpAny_bind (wpAny_mkInt (wpAny_pure ⟨_, rfl, V.int n, H', I3.tok _, ⟨_, rfl⟩, q⟩))
    | next => exact False.elim hq
    | brk => exact False.elim hq
    | cont => exact False.elim hq
end
end L3
namespace L3
open PySem PySem.Spec PyProof.Rows L2
section
variable {X : Cx} {w : Wi} {Γ : Ga} {M : Mm} {Q : D → Mm → Prop} {a o e e1 e2 : Expr} {pos p apos cpos : Pos} {k k0 : Nat} {n : Nm} {c : Str}
/-- max of ints -/
def pMax : PP1 := fun x M Q => ∃ ns : List Int, x = .lst (ns.map .int) ∧ 0 < ns.length ∧ ∀ m, m ∈ ns → (∀ y ∈ ns, y ≤ m) → Q (.int m) M
theorem cd_max (hc : X.calm = true) : CD X (.builtin "max") (one pMax) := .one fun w F H0 Hb H σ Γ M v x Q A e r ⟨ns, hx, h0, q⟩ => by
  subst hx
  cases r with
  | lst h r => exact semC_of (cr_max hc) ⟨_, ns, rfl, by rw [← reps_ints r]; exact SqL.of (A.hs.ex _ _ h), h0, fun m h1 h2 => A.val e .int (q m h1 h2)⟩
theorem boot_max' : bootBuiltins ("max" : Str) = some (.builtin "max") := by kernel_rfl
theorem de_max (S : Sc X k n) (hs : starEach [a] X.env = [(false, eval a X.env)]) (hx : ("max" : Str) ∈ n.glb) (hb : ("max" : Str) ∈ n.bts) (h : DE X w a Γ M fun d M1 => pMax d M1 Q) : DE X w (.Call (.Name "max" p) [a] [] pos) Γ M Q :=
  de_callB S hx (S.bt _ hb) boot_max' (cd_max S.calm) hs rfl (da_cons hs (de_imp h fun d M1 q => da_nil q))
/-- list(x) as a new list that will be changed -/
theorem cd_listM : CD X (.type "list") (one fun d M Q => ∃ ds, d.seqM M = some ds ∧ ∀ p, M p = none → Q (.ptr p) (M.put p (.l ds))) := .one fun w F H0 Hb H σ Γ M v x Q A e r ⟨ds, h, q⟩ => by
  obtain ⟨p, vs, rfl, h1, h2⟩ := rep_seqM A r h
  exact semC_of call_list_of ⟨_, _, rfl, h1, fun l hl => ⟨Hb, _, _, e, A.cell (c := .l ds) hl ⟨vs, upd_same, h2⟩, .ptr, q l (A.hs.free hl)⟩⟩
theorem de_listM (S : Sc X k n) (hs : starEach [a] X.env = [(false, eval a X.env)]) (hx : ("list" : Str) ∈ n.glb) (hb : ("list" : Str) ∈ n.bts) (h : DE X w a Γ M fun d M1 => ∃ ds, d.seqM M1 = some ds ∧ ∀ p, M1 p = none → Q (.ptr p) (M1.put p (.l ds))) : DE X w (.Call (.Name "list" p) [a] [] pos) Γ M Q :=
  de_callT S hx (S.bt _ hb) boot_list' cd_listM hs rfl (da_cons hs (de_imp h fun d M1 q => da_nil q))
/-- l.insert(i, d) -/
def pIns : PPM
  | .ptr p, [.int i, d], M, Q => ∃ ds, M p = some (.l ds) ∧ ds.length < sizeLine ∧ 0 ≤ i ∧ i < 1000000 ∧ Q .non (M.put p (.l (ds.take i.toNat ++ [d] ++ ds.drop i.toNat)))
  | _, _, _, _ => False
theorem md_insert : MD X "list" "list.insert" pIns := fun w F H0 Hb H σ Γ M v vs x xs Q A e rx rs q => by
  cases rx with
  | @ptr p =>
    cases rs with
    | nil => exact q.elim
    | cons r1 r2 =>
      cases r2 with
      | nil => exact (by cases r1 <;> exact q.elim)
      | cons r2 r3 =>
        cases r3 with
        | cons _ _ => exact (by cases r1 <;> exact q.elim)
        | nil =>
          cases r1 with
          | int =>
            obtain ⟨ds, h0, h1, i0, i1, q⟩ := q
            obtain ⟨_, us, h, r⟩ := A.hs.ce _ _ h0
            exact semM_of mt_insert ⟨_, us, _, _, rfl, rfl, h, by rw [r.length]; exact h1, i0, by omega, Hb, .non, _, e, A.write (c := .l (ds.take _ ++ [_] ++ ds.drop _)) h0 ⟨_, upd_same, ((r.take _).append (.cons r2 .nil)).append (r.drop _)⟩, .non, q⟩
          | _ => exact q.elim
  | _ => exact q.elim
theorem de_insert (hs : starEach [e1, e2] X.env = [(false, eval e1 X.env), (false, eval e2 X.env)]) (hs2 : starEach [e2] X.env = [(false, eval e2 X.env)]) (hbase : attributeBase o "insert" X.env (eval o X.env) = eval o X.env) (hline : (apos.endLine == cpos.line) = true)
    (h : DE X w o Γ M fun x M1 => ∃ p ds, x = .ptr p ∧ M1 p = some (.l ds) ∧ DE X w e1 Γ M1 fun d M2 => DE X w e2 Γ M2 fun d2 M3 => pIns (.ptr p) [d, d2] M3 Q) : DE X w (.Call (.Attribute o "insert" apos) [e1, e2] [] cpos) Γ M Q :=
  de_bm PySem.F.plainAttrs_list PySem.F.slot_list_insert PySem.F.type_list_insert md_insert hbase (by rw [hs]; rfl) hline (by rw [hs, hs2]) (by rw [hs2]; rfl) (de_imp h fun x M1 ⟨p, ds, h1, h2, h3⟩ => by
    subst h1
    exact ⟨⟨rfl, ds, h2⟩, da_cons (by rw [hs, hs2]) (de_imp h3 fun d M2 q => da_cons hs2 (de_imp q fun d2 M3 q => da_nil q))⟩)
end
end L3
/-! ### 85. len(x) of any kind; constants of a class -/
namespace L3
open PySem PySem.Spec PyProof.Rows L2
section
variable {X : Cx} {w : Wi} {Γ : Ga} {M : Mm} {Q : D → Mm → Prop} {a e : Expr} {pos p : Pos} {k k0 : Nat} {n : Nm} {c f : Str} {d x : D} {ps : List Str} {KW : List KwF} {S : SpD}
def pLenX (X : Cx) (k0 : Nat) : PP1 := fun x M Q => pLen x M Q ∨ ∃ c k ps KW S, MthD X.prog X.w X.K X.mg X.base k c "__len__" ps KW S ∧ k + 1 ≤ k0 ∧ x.isO c "__len__" M ∧ S [x] M (fun d M2 => ∃ n : Int, d = .int n ∧ 0 ≤ n ∧ n < 2 ^ 63 ∧ Q (.int n) M2) fun _ _ _ => False
theorem cd_lenX (Sx : Sc X k0 n) : CD X (.builtin "len") (one (pLenX X k0)) := .one fun w F H0 Hb H σ Γ M v x Q A e r q => by
  rcases q with q | ⟨c, k, ps, KW, S, C, hk, ho, q⟩
  · exact cd_len w F H0 Hb H σ Γ M [v] [x] Q A e (.cons r .nil) q
  · intro pins s σ' us I rv
    obtain ⟨u, rfl, ru⟩ := vals1 rv
    obtain ⟨a, dx, ws, rfl, ha, hl⟩ := isO_ins A r ho
    obtain rfl : u = Value.ref a := ru
    obtain ⟨g, fd, hm, f, b, _⟩ := C.ex
    refine lenown_ok (CX := L2.CX X.prog X.w) I ha hm f (Sx.room.mono hk) b (fun _ _ _ _ _ _ _ z => by obtain ⟨_, _, _, _, _, _, _, _, _, _, _, _, z⟩ := z; exact z.elim) ?_
    refine ⟨F, Hb, [x], M, _, fun _ _ _ => False, A.hs, .cons r .nil, q, fun v H' Hb' d M' ⟨n, hd, n0, n1, hq⟩ e' h' r' => ?_, fun _ _ _ _ _ _ _ z => z.elim⟩
    subst hd
    cases r'
    exact ⟨n, rfl, n0, n1, Hb', .int n, M', e.trans e', A.hsTo e' h', .int, hq⟩
theorem de_lenX (S : Sc X k0 n) (hs : starEach [a] X.env = [(false, eval a X.env)]) (hx : ("len" : Str) ∈ n.glb) (hb : ("len" : Str) ∈ n.bts) (h : DE X w a Γ M fun d M1 => pLenX X k0 d M1 Q) : DE X w (.Call (.Name "len" p) [a] [] pos) Γ M Q :=
  de_callB S hx (S.bt _ hb) PySem.boot_len (cd_lenX S) hs rfl (da_cons hs (de_imp h fun d M1 q => da_nil q))
theorem lf_lenXa (h : pLen x M Q) : pLenX X k0 x M Q := .inl h
theorem lf_lenXo (ho : x.isO c "__len__" M) (C : MthD X.prog X.w X.K X.mg X.base k c "__len__" ps KW S) (hk : k + 1 ≤ k0) (q : S [x] M (fun d M2 => ∃ n : Int, d = .int n ∧ 0 ≤ n ∧ n < 2 ^ 63 ∧ Q (.int n) M2) fun _ _ _ => False) : pLenX X k0 x M Q := .inr ⟨c, k, ps, KW, S, C, hk, ho, q⟩
structure ClsV (K : PySem.W.Frag) (mg : Str → Option Value) (c f : Str) (d : D) : Prop where
  gm : mg c = some (.ref (ca mg c))
  ex : ∃ mc v u, ClX.CRead K (ca mg c) mc ∧ ClX.CVal K (ca mg c) mc f v u ∧ ∀ Hb, Rep K mg Hb v d
theorem de_cval (Sx : Sc X k0 n) (Cv : ClsV X.K X.mg c f d) (hx : c ∈ n.glb) (hb : attributeBase (.Name c p) f X.env (eval (.Name c p) X.env) = eval (.Name c p) X.env) (q : Q d M) : DE X w (.Attribute (.Name c p) f pos) Γ M Q := .mk fun F σ H Hb A => by
  obtain ⟨mc, v, u, h1, h2, h3⟩ := Cv.ex
  intro pins s I
  refine attr_of hb (ld_glob I (Sx.gl c hx).1 Cv.gm ?_ (okN_d (Sx.gl c hx).2))
  exact ClX.getcval_ok I h1 h2 fun s2 I2 => ⟨v, H, I2, h2.rel, A.val (Ex.refl _) (h3 _) q⟩
theorem clsV_int {K : PySem.W.Frag} {mg : Str → Option Value} {h : Heap} {C : Addr} {mc : Value} {i : Int} {t : Tok} (X : K.In h) (G : h.Ns mainGlobals mg) (a : PySem.W.nsIn K mainGlobals c = some (some (.ref C))) (r1 : PySem.W.readsIn K C mc = true) (r2 : PySem.W.specialIn K (.ref C) "__getattribute__" = some (some (.builtin "type.__getattribute__"))) (v : PySem.W.findCls K (.ref C) mc f = some (.val (.int i t))) : ClsV K mg c f (.int i) := by
  obtain ⟨g, rfl⟩ := ca_of X G a
  exact ⟨g, mc, .int i, _, ⟨r1, r2⟩, ⟨v, ⟨t, rfl⟩⟩, fun _ => .int⟩
end
end L3
namespace L3
open PySem PySem.Spec PyProof.Rows L2
section
variable {X : Cx} {k0 : Nat} {x : D} {M : Mm} {Q : D → Mm → Prop}
theorem g_pLenX (h : pLenX X k0 x M Q) : pLenX X k0 x M Q := h
theorem g_pIns {xs : List D} (h : pIns x xs M Q) : pIns x xs M Q := h
theorem g_pMax (h : pMax x M Q) : pMax x M Q := h
theorem lf_ins {p : Addr} {ds : List D} {i : Int} {d : D} (m : M p = some (.l ds)) (l : ds.length ≤ 1000000) (h0 : 0 ≤ i) (h1 : i < 1000000) (q : Q .non (M.put p (.l (ds.take i.toNat ++ [d] ++ ds.drop i.toNat)))) : pIns (.ptr p) [.int i, d] M Q := ⟨ds, m, by rw [sizeLine_eq]; omega, h0, h1, q⟩
end
end L3
namespace L3
open PySem PySem.Spec PyProof.Rows L2
/-- list(..) gives a list that will be changed -/
structure ListMOn : Prop where
theorem de_listMm {X : Cx} {w : Wi} {Γ : Ga} {M : Mm} {Q : D → Mm → Prop} {a : Expr} {pos p : Pos} {k : Nat} {n : Nm} (_z : ListMOn) (S : Sc X k n) (hs : starEach [a] X.env = [(false, eval a X.env)]) (hx : ("list" : Str) ∈ n.glb) (hb : ("list" : Str) ∈ n.bts) (h : DE X w a Γ M fun d M1 => ∃ ds, d.seqM M1 = some ds ∧ ∀ p, M1 p = none → Q (.ptr p) (M1.put p (.l ds))) : DE X w (.Call (.Name "list" p) [a] [] pos) Γ M Q := de_listM S hs hx hb h
end L3
namespace L3
theorem ok24 {m : Nat} {says : List Say} (ok : SaysOk m says) {s : Say} (h : s ∈ says) : s.ok 24 := by
  have z := ok.ok s h
  have := ok.mm
  cases s with
  | nob i => exact ⟨z.1, by have := z.2; omega⟩
  | isn i l => exact ⟨z.1, by have := z.2.1; omega, z.2.2⟩
  | sam i j => exact ⟨z.1, by have := z.2.1; omega, z.2.2.1, by have := z.2.2.2.1; omega, z.2.2.2.2⟩
  | apa i j => exact ⟨z.1, by have := z.2.1; omega, z.2.2.1, by have := z.2.2.2.1; omega, z.2.2.2.2⟩
end L3
namespace L3
section
variable {n : Nat} {vs : List D} {d : D} {i : Nat}
theorem sms_iff : ∀ {vs : List D}, D.sms n vs = true ↔ ∀ v ∈ vs, D.sm n v = true
  | [] => by simp [D.sms]
  | v :: vs => by
    have ih := sms_iff (vs := vs)
    simp only [D.sms, Bool.and_eq_true, ih, List.mem_cons, forall_eq_or_imp]
theorem sms_ins (h : D.sms n vs = true) (k : D.sm n d = true) : D.sms n (vs.take i ++ [d] ++ vs.drop i) = true := by
  rw [sms_iff] at *
  intro v hv
  simp only [List.mem_append, List.mem_singleton] at hv
  rcases hv with (hv | rfl) | hv
  · exact h v (List.mem_of_mem_take hv)
  · exact k
  · exact h v (List.mem_of_mem_drop hv)
theorem ins_len : (vs.take i ++ [d] ++ vs.drop i).length = vs.length + 1 := by
  simp only [List.length_append, List.length_take, List.length_drop, List.length_cons, List.length_nil]; omega
theorem bag_put {M : Mm} {p q : PySem.Addr} {c : Cell} (h : BagAt M p) (ne : q ≠ p) : BagAt (M.put q c) p := by
  obtain ⟨b, hb⟩ := h
  exact ⟨b, (Mm.put_ne ne.symm).trans hb⟩
end
end L3
namespace L3
open PySem PySem.Spec PyProof.Rows L2
def picsV : D → List Int
  | .tup (_ :: r) => r.filterMap fun d => match d with
    | .int i => some i
    | _ => none
  | _ => []
theorem picsV_d (s : Say) : picsV s.d = picsS s := by cases s <;> rfl
def okVB (m : Nat) (v : D) : Bool := isSay v && (picsV v).all fun c => decide (c < (m : Int))
theorem okVB_iff {m : Nat} {v : D} (hm : m ≤ 24) : okVB m v = true ↔ okV m v := by
  unfold okVB
  rw [Bool.and_eq_true]
  constructor
  · rintro ⟨h1, h2⟩
    obtain ⟨s, rfl, hs⟩ := say_of h1
    rw [picsV_d] at h2
    exact ⟨s, rfl, ok_pics hs h2⟩
  · rintro ⟨s, rfl, hs⟩
    exact ⟨(say_sm hs (by omega)).2, by rw [picsV_d]; exact pics_ok hs⟩
def badK (m : Nat) (vs : List D) (k : Nat) : Bool := match vs[k]? with
  | some v => !okVB m v
  | none => false
theorem lf_ixV {vs : List D} {k : Nat} {v : D} {M : Mm} {Q : D → Mm → Prop} (h : vs[k]? = some v) (q : Q v M) : pIx (.lst vs) (.int (k : Int)) M Q := ⟨v, atI_nat h, q⟩
def notStr : D → Bool
  | .str _ => false
  | _ => true
theorem badK_0 {m k : Nat} {vs : List D} {v : D} (h : vs[k]? = some v) (n : isSay v = false) : badK m vs k = true := by
  unfold badK okVB; rw [h]; simp [n]
theorem badK_1 {m k : Nat} {vs : List D} {s : Say} {x : Int} (h : vs[k]? = some s.d) (hs : s.ok 24) (hx : x ∈ picsS s) (le : ∀ y ∈ picsS s, y ≤ x) : badK m vs k = decide ((m : Int) ≤ x) := by
  unfold badK okVB
  rw [h]
  simp only [(say_sm hs (by omega)).2, Bool.true_and, picsV_d]
  by_cases z : (m : Int) ≤ x
  · rw [decide_eq_true z, Bool.not_eq_true']
    exact List.all_eq_false.mpr ⟨x, hx, by simp; omega⟩
  · rw [decide_eq_false z, Bool.not_eq_false']
    exact List.all_eq_true.mpr fun y hy => decide_eq_true (by have := le y hy; omega)
end L3
namespace L3
open PySem PySem.Spec PyProof.Rows L2
theorem bad_nil {m : Nat} {vs : List D} (hm : m ≤ 24) (h : (List.range vs.length).filter (fun k => badK m vs k) = []) : ∀ v ∈ vs, okV m v := fun v hv => by
  obtain ⟨k, hk, rfl⟩ := List.getElem_of_mem hv
  have z := List.filter_eq_nil_iff.mp h k (List.mem_range.mpr hk)
  unfold badK at z
  rw [List.getElem?_eq_getElem hk] at z
  simp only [Bool.not_eq_true, Bool.not_eq_false'] at z
  exact (okVB_iff hm).mp z
theorem range_pre {n k : Nat} {l1 l2 : List Nat} (h : List.range n = l1 ++ k :: l2) : k < n ∧ ∀ x, x < k → x ∈ l1 := by
  have e : ∀ i, i < n → (l1 ++ k :: l2)[i]? = some i := fun i hi => by rw [← h, List.getElem?_range hi]
  have hn : n = l1.length + (l2.length + 1) := by
    have := congrArg List.length h
    simpa using this
  have hk : l1.length = k := by
    have := e l1.length (by omega)
    simpa using this.symm
  refine ⟨by omega, fun x hx => ?_⟩
  have := e x (by omega)
  rw [List.getElem?_append_left (by omega)] at this
  exact List.mem_of_getElem? this
theorem bad_cons {m kb : Nat} {vs : List D} {rb : List Nat} (hm : m ≤ 24) (h : (List.range vs.length).filter (fun k => badK m vs k) = kb :: rb) : ∃ v, vs[kb]? = some v ∧ ¬ okV m v ∧ ∀ u ∈ vs.take kb, okV m u := by
  obtain ⟨l1, l2, h1, h2, h3, _⟩ := List.filter_eq_cons_iff.mp h
  obtain ⟨hk, pre⟩ := range_pre h1
  refine ⟨vs[kb], List.getElem?_eq_getElem hk, fun z => ?_, fun u hu => ?_⟩
  · unfold badK at h3
    rw [List.getElem?_eq_getElem hk] at h3
    have := (okVB_iff hm).mpr z
    simp [this] at h3
  · obtain ⟨j, hj, rfl⟩ := List.getElem_of_mem hu
    rw [List.length_take] at hj
    have z := h2 j (pre j (by omega))
    unfold badK at z
    rw [List.getElem?_eq_getElem (by omega)] at z
    simp only [Bool.not_eq_true, Bool.not_eq_false'] at z
    rw [List.getElem_take]
    exact (okVB_iff hm).mp z
theorem ints_map (l : List Nat) : (l.map fun k : Nat => D.int (k : Int)) = (l.map fun k : Nat => (k : Int)).map .int := by rw [List.map_map]; rfl
theorem odd4 {d : D} (h : d ∈ ([.non, .int (-1), .int 25, .bl true, .str "3", .tup [.int 3], .int (10 ^ 20)] : List D)) : isNum d 0 24 = false := by
  simp only [List.mem_cons, List.not_mem_nil, or_false] at h
  rcases h with rfl | rfl | rfl | rfl | rfl | rfl | rfl <;> rfl
theorem not4 {d : D} (h : d ∈ ([.non, .int 3, .str "same 0 1", .bl true] : List D)) : ∀ l, d ≠ .lst l ∧ d ≠ .tup l := by
  simp only [List.mem_cons, List.not_mem_nil, or_false] at h
  rcases h with rfl | rfl | rfl | rfl <;> simp
end L3
namespace L3
open PySem PySem.Spec PyProof.Rows L2
theorem garb {M : Mm} {p q T0 : Addr} {c c' : Cell} (hb : BagAt M p) (hT : M T0 = some c) (hq : M q = none) : BagAt (M.put q c') p ∧ (M.put q c') T0 = some c := by
  refine ⟨bag_put hb fun e => ?_, (Mm.put_ne fun e => ?_).trans hT⟩
  · obtain ⟨b, hbb⟩ := hb; rw [e, hbb] at hq; cases hq
  · rw [← e, hT] at hq; cases hq
theorem says_lst {m : Nat} {says : List Say} (ok : SaysOk m says) {n : Nat} : D.sm (n + 2) (.lst (says.map Say.d)) = true := by
  refine sm_lst (by have := ok.l; rw [List.length_map]; omega) (D.sms_of fun d hd => ?_)
  obtain ⟨s, hs, rfl⟩ := List.mem_map.mp hd
  exact say_sm7 (ok24 ok hs)
def nob40 : List Say := List.replicate 40 (.nob 0)
theorem nob40_ok : SaysOk 2 nob40 := ⟨by decide, by simp [nob40], fun s hs => by rw [List.eq_of_mem_replicate hs]; exact ⟨by decide, by decide⟩⟩
theorem nob_okV : okV 2 (.tup [.str "nobody", .int 0]) := ⟨.nob 0, rfl, by decide, by decide⟩
theorem rep_okV {k : Nat} : ∀ t ∈ List.replicate k (D.tup [.str "nobody", .int 0]), okV 2 t := fun t ht => by rw [List.eq_of_mem_replicate ht]; exact nob_okV
theorem non_okV {m : Nat} : ¬ okV m .non := by
  rintro ⟨s, e, _⟩
  cases s <;> cases e
theorem rep_sms {k : Nat} : D.sms 8 (List.replicate k (D.tup [.str "nobody", .int 0])) = true := by
  rw [sms_iff]
  intro t ht
  rw [List.eq_of_mem_replicate ht]
  exact sm_tup (by simp) (sms_cons (sm_str (by decide +kernel) (by decide +kernel)) (sms_cons sm_int sms_nil))
end L3
namespace L3
open PySem PySem.Spec PyProof.Rows L2
theorem rep_non {k : Nat} : D.sms 8 (List.replicate k (D.tup [.str "nobody", .int 0]) ++ [D.non]) = true := by
  rw [sms_iff]
  intro t ht
  rcases List.mem_append.mp ht with h | h
  · exact D.sms_mem rep_sms h
  · rw [List.mem_singleton.mp h]; exact sm_non
theorem rep_tak {k : Nat} : ∀ t ∈ (List.replicate k (D.tup [.str "nobody", .int 0]) ++ [D.non]).take k, okV 2 t := by
  rw [List.take_left' (by simp)]
  exact rep_okV
end L3
open PySem PySem.Spec PyProof.Rows L2 L3
namespace T
def top (i : Nat) : Stmt := PySem.Challenge.pw_labelroam_k04_albums_refused.main.body.getD i (.Pass ⟨0, 0, 0, 0⟩)
def mst (i j : Nat) : Stmt := (clsB (top i)).getD j (.Pass ⟨0, 0, 0, 0⟩)
def allB : List Str := ["super", "isinstance", "str", "len", "all", "int", "bool", "list", "tuple", "enumerate", "range", "min", "sorted", "abs", "zip", "max"]
theorem bsub {mg : Str → Option Value} {l l' : List Str} (h : ∀ x ∈ l', mg x = none) (s : l.all (fun x => l'.contains x) = true) : ∀ x ∈ l, mg x = none := fun x hx =>
  h x (by simpa using List.all_eq_true.mp s x hx)
def sp__law_bag : SpD := fun ds M Q _ => ∃ ns, ds = [.scr ns] ∧ ns.length ≤ 63 ∧ ∀ p M', M p = none → BagAt M' p → Keep p M M' → Q (.ptr p) M'
def sp__law_draw : SpD := fun ds M Q _ => ∃ p m, BagAt M p ∧ ds = [.ptr p, .int m] ∧ 0 < m ∧ m < 1073741824 ∧ dDraw p m M Q
def sp__law_pick : SpD := fun ds M Q _ => ∃ p x, BagAt M p ∧ ds = [.ptr p, x] ∧
  ((∃ xs, (x = .lst xs ∨ x = .tup xs) ∧ 0 < xs.length ∧ xs.length < 1073741824 ∧ ∀ d ∈ xs, ∀ M', BagAt M' p → Keep p M M' → Q d M') ∨
   (∃ s : Str, x = .str s ∧ 0 < s.length ∧ s.length ≤ 16777216 ∧ ∀ c ∈ s.cps.toList, ∀ M', BagAt M' p → Keep p M M' → Q (.str ⟨#[c]⟩) M'))
abbrev letters : Str := abc
def sp__law_letters : SpD := fun ds M Q _ => ds = [] ∧ Q (.str letters) M
def sp__law_same (n : Nat) : SpD := fun ds M Q _ => ∃ x, ds = [x, x] ∧ D.sm n x = true ∧ Q (.bl true) M
def sp__law_names : SpD := fun ds M Q _ => ∃ p n, BagAt M p ∧ ds = [.ptr p, .int n] ∧ 0 ≤ n ∧ n ≤ 26 ∧ ∀ names M', NamesOk n.toNat names → BagAt M' p → Keep p M M' → Q (.lst (names.map .str)) M'
def strO (s : Str) : Prop := PyData.strOk s = true
def isSA (w : Str) : Bool := D.mem (.str w) [.str "same", .str "apart"]
def isSI (w : Str) : Bool := D.mem (.str w) [.str "same", .str "is"]
theorem isSA_iff {w : Str} : isSA w = decide (("same" : Str) = w ∨ ("apart" : Str) = w) := by
  unfold isSA
  simp only [L3.mem_cons, mem_nil, eq_ss, Bool.or_false, ← Bool.decide_or]
theorem isSI_iff {w : Str} : isSI w = decide (("same" : Str) = w ∨ ("is" : Str) = w) := by
  unfold isSI
  simp only [L3.mem_cons, mem_nil, eq_ss, Bool.or_false, ← Bool.decide_or]
def sp_pictures_of : SpD := fun ds M Q _ => ∃ w xs, D.ok 60 (.str w) = true ∧ ds = [.tup (.str w :: xs)] ∧ Q (.tup (if isSA w = true then xs else xs.take 1)) M
def sp_is_tie : SpD := fun ds M Q _ => ∃ w xs, D.ok 60 (.str w) = true ∧ ds = [.tup (.str w :: xs)] ∧ Q (.bl (isSI w)) M
section
variable {M M0 : Mm} {Q : D → Mm → Prop} {E : Str → List (Str × D) → Mm → Prop} {p : Addr} {m : Int} {xs : List D} {s : Str}
theorem lf_draw (hb : BagAt M p) (kp : Keep p M0 M) (h0 : 0 < m) (h1 : m < 1073741824) (q : ∀ (i : Int) (M' : Mm), 0 ≤ i → i < m → BagAt M' p → Keep p M0 M' → Q (.int i) M') : sp__law_draw [.ptr p, .int m] M Q E :=
  ⟨p, m, hb, rfl, h0, h1, fun i M' a b c d => q i M' a b c (kp.trans d)⟩
theorem lf_letters (q : Q (.str letters) M) : sp__law_letters [] M Q E := ⟨rfl, q⟩
theorem lf_pickS (hb : BagAt M p) (kp : Keep p M0 M) (h0 : 0 < s.length) (h1 : s.length ≤ 16777216) (q : ∀ (c : Nat) (M' : Mm), c ∈ s.cps.toList → BagAt M' p → Keep p M0 M' → Q (.str ⟨#[c]⟩) M') : sp__law_pick [.ptr p, .str s] M Q E :=
  ⟨p, _, hb, rfl, .inr ⟨s, rfl, h0, h1, fun c hc M' a b => q c M' hc a (kp.trans b)⟩⟩
theorem lf_pickL (hb : BagAt M p) (kp : Keep p M0 M) (h0 : 0 < xs.length) (h1 : xs.length < 1073741824) (q : ∀ (d : D) (M' : Mm), d ∈ xs → BagAt M' p → Keep p M0 M' → Q d M') : sp__law_pick [.ptr p, .lst xs] M Q E :=
  ⟨p, _, hb, rfl, .inl ⟨xs, .inl rfl, h0, h1, fun c hc M' a b => q c M' hc a (kp.trans b)⟩⟩
theorem lf_pickStr (hb : BagAt M p) (kp : Keep p M0 M) (h0 : 0 < xs.length) (h1 : xs.length < 1073741824) (al : AllS xs) (q : ∀ (l : List Nat) (M' : Mm), .str (tx l) ∈ xs → PyData.strOk (tx l) = true → l.length ≤ 40 → BagAt M' p → Keep p M0 M' → Q (.str (tx l)) M') : sp__law_pick [.ptr p, .lst xs] M Q E :=
  lf_pickL hb kp h0 h1 fun d M' hd a b => by
    obtain ⟨l, rfl, h2, h3⟩ := al.get hd
    exact q l M' hd h2 h3 a b
theorem lf_pickInt (hb : BagAt M p) (kp : Keep p M0 M) (h0 : 0 < xs.length) (h1 : xs.length < 1073741824) (al : AllI xs) (q : ∀ (i : Int) (M' : Mm), .int i ∈ xs → BagAt M' p → Keep p M0 M' → Q (.int i) M') : sp__law_pick [.ptr p, .lst xs] M Q E :=
  lf_pickL hb kp h0 h1 fun d M' hd a b => by
    obtain ⟨l, rfl⟩ := al.get hd
    exact q l M' hd a b
theorem lf_pickSm (hb : BagAt M p) (kp : Keep p M0 M) (h0 : 0 < xs.length) (h1 : xs.length < 1073741824) (al : D.sms 7 xs = true) (q : ∀ (d : D) (M' : Mm), d ∈ xs → D.sm 7 d = true → BagAt M' p → Keep p M0 M' → Q d M') : sp__law_pick [.ptr p, .lst xs] M Q E :=
  lf_pickL hb kp h0 h1 fun d M' hd a b => q d M' hd (D.sms_mem al hd) a b
theorem lf_pickT (hb : BagAt M p) (kp : Keep p M0 M) (h0 : 0 < xs.length) (h1 : xs.length < 1073741824) (q : ∀ (d : D) (M' : Mm), d ∈ xs → BagAt M' p → Keep p M0 M' → Q d M') : sp__law_pick [.ptr p, .tup xs] M Q E :=
  ⟨p, _, hb, rfl, .inl ⟨xs, .inr rfl, h0, h1, fun c hc M' a b => q c M' hc a (kp.trans b)⟩⟩
end
abbrev sp_law : SpD := spLaw
theorem lf_bag {M : Mm} {Q : D → Mm → Prop} {E : Str → List (Str × D) → Mm → Prop} {ns : List Int} (hn : ns.length ≤ 63) (q : ∀ p M', BagAt M' p → Keep p M' M' → Q (.ptr p) M') : sp__law_bag [.scr ns] M Q E :=
  ⟨ns, rfl, hn, fun p M' _ hb _ => q p M' hb (Keep.refl _ _)⟩
theorem lf_bagT {M : Mm} {Q : D → Mm → Prop} {E : Str → List (Str × D) → Mm → Prop} {ns : List Int} {T0 : Addr} {c : Cell} (hT : M T0 = some c) (hn : ns.length ≤ 63) (q : ∀ p M', BagAt M' p → Keep p M' M' → T0 ≠ p → M' T0 = some c → Q (.ptr p) M') : sp__law_bag [.scr ns] M Q E :=
  ⟨ns, rfl, hn, fun p M' hp hb k => q p M' hb (Keep.refl _ _) (fun e => by rw [e, hp] at hT; cases hT) ((k T0 (fun e => by rw [e, hp] at hT; cases hT)).trans hT)⟩
theorem lf_names {M M0 : Mm} {Q : D → Mm → Prop} {E : Str → List (Str × D) → Mm → Prop} {p : Addr} {n : Int} (hb : BagAt M p) (kp : Keep p M0 M) (h0 : 0 ≤ n) (h1 : n ≤ 26) (q : ∀ (names : List (List Nat)) M', NamesL n.toNat names → BagAt M' p → Keep p M0 M' → Q (.lst (names.map fun l => .str (tx l))) M') : sp__law_names [.ptr p, .int n] M Q E :=
  ⟨p, n, hb, rfl, h0, h1, fun names M' a b c => by
    have z := q _ M' (namesL_of a) b (kp.trans c)
    rw [List.map_map] at z
    exact z⟩
theorem lf_names1 {M M0 : Mm} {Q : D → Mm → Prop} {E : Str → List (Str × D) → Mm → Prop} {p : Addr} (hb : BagAt M p) (kp : Keep p M0 M) (q : ∀ nm M', NameL nm → nm.length ≤ 8 → BagAt M' p → Keep p M0 M' → Q (.lst [.str (tx nm)]) M') : sp__law_names [.ptr p, .int 1] M Q E :=
  ⟨p, 1, hb, rfl, by omega, by omega, fun names M' a b c => by
    obtain ⟨a1, a2, a3⟩ := a
    match names, a1 with
    | [nm], _ => exact q nm.cps.toList M' (a2 nm List.mem_cons_self).l (a2 nm List.mem_cons_self).l.small b (kp.trans c)⟩
section
variable {M : Mm} {Q : D → Mm → Prop} {E : Str → List (Str × D) → Mm → Prop} {w : Str} {xs : List D} {x y : D}
theorem lf_picsT (c : isSA w = true) (o : D.ok 60 (.str w) = true) (h : Q (.tup xs) M) : sp_pictures_of [.tup (.str w :: xs)] M Q E := ⟨w, xs, o, rfl, by rw [if_pos c]; exact h⟩
theorem lf_picsF (c : isSA w = false) (o : D.ok 60 (.str w) = true) (h : Q (.tup (xs.take 1)) M) : sp_pictures_of [.tup (.str w :: xs)] M Q E := ⟨w, xs, o, rfl, by rw [if_neg (by rw [c]; exact Bool.false_ne_true)]; exact h⟩
theorem lf_tieT (c : isSI w = true) (o : D.ok 60 (.str w) = true) (h : Q (.bl true) M) : sp_is_tie [.tup (.str w :: xs)] M Q E := ⟨w, xs, o, rfl, by rw [c]; exact h⟩
theorem lf_tieF (c : isSI w = false) (o : D.ok 60 (.str w) = true) (h : Q (.bl false) M) : sp_is_tie [.tup (.str w :: xs)] M Q E := ⟨w, xs, o, rfl, by rw [c]; exact h⟩
theorem lf_same (e : x = y) (h : D.sm 8 y = true) (q : Q (.bl true) M) : sp__law_same 8 [x, y] M Q E := ⟨y, by rw [e], h, q⟩
theorem lf_same' (e : x = y) (h : D.sm 8 x = true) (q : Q (.bl true) M) : sp__law_same 8 [x, y] M Q E := ⟨x, by rw [e], h, q⟩
end
def sp_is_number : SpD := fun ds M Q _ => ∃ v lo hi, D.sm 8 v = true ∧ ds = [v, .int lo, .int hi] ∧ Q (.bl (isNum v lo hi)) M
def sp_is_name : SpD := fun ds M Q _ => ∃ v, D.sm 8 v = true ∧ ds = [v] ∧ Q (.bl (isName v)) M
def sp_is_picture : SpD := fun ds M Q _ => ∃ v, D.sm 8 v = true ∧ ds = [v] ∧ Q (.bl (isNum v 0 23)) M
def sp_is_saying : SpD := fun ds M Q _ => ∃ v, D.sm 8 v = true ∧ ds = [v] ∧ Q (.bl (isSay v)) M
--lf: lf_picsT DK DK
--lf: lf_picsF DK DK
--lf: lf_tieT DK DK
--lf: lf_tieF DK DK
--lf: lf_same RA SM
--lf: lf_same' RA SM
--lf: lf_letters
--lf: lf_bagT AS AS I6
--lf: lf_bag AS I4
--lf: lf_names1 AS AS I6
--lf: lf_names AS AS CD CD I5
--lf: lf_draw AS AS CD CD I6
--lf: lf_pickS AS AS DK DK I5
--lf: lf_pickStr AS AS LE LE ALLS I7
--lf: lf_pickInt AS AS LE LE ALLI I5
--lf: lf_pickSm AS AS LE LE SMS I6
--lf: lf_pickL AS AS LE LE I5
--lf: lf_pickT AS AS LE LE I5
section
variable {M : Mm} {Q : D → Mm → Prop} {E : Str → List (Str × D) → Mm → Prop} {v x y : D} {lo hi : Int}
theorem lf_isnum (h : D.sm 8 v = true) (q : Q (.bl (isNum v lo hi)) M) : sp_is_number [v, .int lo, .int hi] M Q E := ⟨v, lo, hi, h, rfl, q⟩
theorem lf_isname (h : D.sm 8 v = true) (q : Q (.bl (isName v)) M) : sp_is_name [v] M Q E := ⟨v, h, rfl, q⟩
theorem lf_ispic (h : D.sm 8 v = true) (q : Q (.bl (isNum v 0 23)) M) : sp_is_picture [v] M Q E := ⟨v, h, rfl, q⟩
theorem lf_issay (h : D.sm 8 v = true) (q : Q (.bl (isSay v)) M) : sp_is_saying [v] M Q E := ⟨v, h, rfl, q⟩
end
--lf: lf_isnumT CD CD
--lf: lf_isnum SM
--lf: lf_isnameT AS
--lf: lf_isname SM
--lf: lf_ispic SM
--lf: lf_issayT AS SM
--lf: lf_issay SM
abbrev sp__law_is_number : SpD := sp_is_number
abbrev sp__law_is_name : SpD := sp_is_name
abbrev sp__law_is_saying : SpD := sp_is_saying
def sp__law_some : SpD := fun ds M Q _ => ∃ p, BagAt M p ∧ ds = [.ptr p] ∧ ∀ d M', D.sm 8 d = true → BagAt M' p → Keep p M M' → Q d M'
theorem lf_some {M M0 : Mm} {Q : D → Mm → Prop} {E : Str → List (Str × D) → Mm → Prop} {p : Addr} (hb : BagAt M p) (kp : Keep p M0 M) (q : ∀ d M', D.sm 8 d = true → BagAt M' p → Keep p M0 M' → Q d M') : sp__law_some [.ptr p] M Q E :=
  ⟨p, hb, rfl, fun d M' a b c => q d M' a b (kp.trans c)⟩
--lf: lf_some AS AS I5
theorem lf_isnameT {M : Mm} {Q : D → Mm → Prop} {E : Str → List (Str × D) → Mm → Prop} {l : List Nat} (h : NameL l) (q : Q (.bl true) M) : sp_is_name [.str (tx l)] M Q E := ⟨_, sm_str (nameL_ok h) (by have := h.small; simp only [tx_l]; omega), rfl, by rw [isName_of h]; exact q⟩
theorem lf_issayT {M : Mm} {Q : D → Mm → Prop} {E : Str → List (Str × D) → Mm → Prop} {v : D} (hS : isSay v = true) (h : D.sm 8 v = true) (q : Q (.bl true) M) : sp_is_saying [v] M Q E := ⟨v, h, rfl, by rw [hS]; exact q⟩
def sp_Album_many : SpD := fun ds M Q _ => ∃ a, ds = [.obj "Album" (albF a)] ∧ Q (.int a.many) M
def sp_Album_sayings : SpD := fun ds M Q _ => ∃ a, ds = [.obj "Album" (albF a)] ∧ Q (.lst (a.says.map Say.d)) M
def sp_Album___len__ : SpD := fun ds M Q _ => ∃ a, ds = [.obj "Album" (albF a)] ∧ Q (.int a.says.length) M
def D.isLT : D → Bool
  | .lst _ => true
  | .tup _ => true
  | _ => false
theorem isLT_no {d : D} (h : ∀ l, d ≠ .lst l ∧ d ≠ .tup l) : D.isLT d = false := by
  cases d with
  | lst l => exact absurd rfl (h l).1
  | tup l => exact absurd rfl (h l).2
  | _ => rfl
def sp_is_list : SpD := fun ds M Q _ => ∃ v, (D.isLT v = true ∨ D.sm 8 v = true) ∧ ds = [v] ∧ Q (.bl (D.isLT v)) M
def sp_check_sayings : SpD := fun ds M Q E => ∃ (m : Nat) (vs : List D) (x : D), m ≤ 24 ∧ D.sms 8 vs = true ∧ vs.length ≤ 100000 ∧ x.seq = some vs ∧ ds = [.int m, x] ∧ ((∀ v ∈ vs, okV m v) → Q .non M) ∧ (∀ (j : Nat) v, vs[j]? = some v → ¬ okV m v → (∀ u ∈ vs.take j, okV m u) → E "InvalidSaying" [("at", .int (j : Int)), ("code", .str "InvalidSaying")] M)
def sp_Album_said_bars : SpD := fun ds M Q _ => ∃ (p : Addr) (a : Alb) (fs : List (Str × D)), M p = some (.o "Album" fs) ∧ fs.lookup ("own_sayings" : Str) = some (.lst (a.says.map Say.d)) ∧ fs.lookup ("own_leaders" : Str) = some (.dK (encF D.int (idxA 0 a.leads))) ∧ fs.lookup ("said_bars" : Str) = none ∧ SaysOk a.many a.says ∧ a.leads.length = a.many ∧ ds = [.ptr p] ∧ Q (.lst ((barsOf (lead a) a.says).map pD)) M
def albE (v x : D) (M : Mm) (E : Str → List (Str × D) → Mm → Prop) : Prop :=
  (D.sm 8 v = true ∧ isNum v 0 24 = false ∧ E "InvalidCount" [("given", v), ("code", .str "InvalidCount")] M) ∨
  (∃ m : Nat, m ≤ 24 ∧ v = .int m ∧ D.sm 8 x = true ∧ D.isLT x = false ∧ E "InvalidSaying" [("at", .int 0), ("code", .str "InvalidSaying")] M) ∨
  (∃ (m : Nat) (vs : List D) (j : Nat) (u : D), m ≤ 24 ∧ v = .int m ∧ x.seq = some vs ∧ D.sms 8 vs = true ∧ vs.length ≤ 100000 ∧ vs[j]? = some u ∧ ¬ okV m u ∧ (∀ t ∈ vs.take j, okV m t) ∧ E "InvalidSaying" [("at", .int (j : Int)), ("code", .str "InvalidSaying")] M) ∨
  (∃ (m : Nat) (vs : List D), m ≤ 24 ∧ v = .int m ∧ x.seq = some vs ∧ D.sms 8 vs = true ∧ vs.length ≤ 100000 ∧ (∀ t ∈ vs, okV m t) ∧ 40 < vs.length ∧ E "TooMany" [("most", .int 40), ("code", .str "TooMany")] M)
def sp_Album___init__ : SpD := fun ds M Q E => ∃ (p : Addr) (v x : D), M p = some (.o "Album" []) ∧ ds = [.ptr p, v, x] ∧
  ((∃ (m : Nat) (says : List Say), SaysOk m says ∧ v = .int m ∧ x.seq = some (says.map Say.d) ∧ ∀ a, AlbOk a → a.many = m → a.says = says → Q .non (M.put p (.o "Album" (albF a)))) ∨ albE v x M E)
def sp_closed : SpD := fun ds M Q _ => ∃ (m : Nat) (says : List Say), SaysOk m says ∧ ds = [.int m, .lst (says.map Say.d)] ∧ Q (.dK (encF lK (closedL m says))) M
section
variable {M : Mm} {Q : D → Mm → Prop} {E : Str → List (Str × D) → Mm → Prop} {i lo hi : Int} {m : Nat} {says : List Say} {ds : List D} {p : Addr} {fs : List (Str × D)} {a : Alb}
theorem lf_isnumT (h0 : lo ≤ i) (h1 : i ≤ hi) (q : Q (.bl true) M) : sp_is_number [.int i, .int lo, .int hi] M Q E := ⟨_, lo, hi, sm_int, rfl, by show Q (.bl (decide (lo ≤ i) && decide (i ≤ hi))) M; rw [decide_eq_true h0, decide_eq_true h1]; exact q⟩
theorem lf_islL (q : Q (.bl true) M) : sp_is_list [.lst ds] M Q E := ⟨_, .inl rfl, rfl, q⟩
theorem lf_islT (q : Q (.bl true) M) : sp_is_list [.tup ds] M Q E := ⟨_, .inl rfl, rfl, q⟩
theorem lf_chk {x : D} (ok : SaysOk m says) (h : x.seq = some (says.map Say.d)) (q : Q .non M) : sp_check_sayings [.int m, x] M Q E := ⟨m, says.map Say.d, x, ok.mm, says_sms (m := (m : Int)) (by have := ok.mm; omega) ok.ok, by have := ok.l; rw [List.length_map]; omega, h, rfl, fun _ => q, fun j v hj nv _ => absurd (okVs_of ok.ok v (List.mem_of_getElem? hj)) nv⟩
theorem lf_islQ {x : D} (h : x.seq = some ds) (q : Q (.bl true) M) : sp_is_list [x] M Q E := by
  rcases seq_isLT h with rfl | rfl <;> exact ⟨_, .inl rfl, rfl, q⟩
theorem lf_closed (ok : SaysOk m says) (q : Q (.dK (encF lK (closedL m says))) M) : sp_closed [.int m, .lst (says.map Say.d)] M Q E := ⟨m, says, ok, rfl, q⟩
end
--lf: lf_islL
--lf: lf_islT
--lf: lf_islQ AS
--lf: lf_chk AS AS
--lf: lf_closed AS
def sp_Album_need_picture : SpD := fun ds M Q E => ∃ (a : Alb) (d : D), AlbOk a ∧ D.sm 8 d = true ∧ ds = [.obj "Album" (albF a), d] ∧ (isNum d 0 (a.many - 1) = true → Q .non M) ∧ (isNum d 0 (a.many - 1) = false → E "InvalidPicture" [("given", d), ("code", .str "InvalidPicture")] M)
theorem isNum_in {i : Int} {n : Nat} (h0 : 0 ≤ i) (h1 : i < (n : Int)) : isNum (.int i) 0 ((n : Int) - 1) ≠ false := fun z => by
  have : (decide (0 ≤ i) && decide (i ≤ (n : Int) - 1)) = false := z
  rw [decide_eq_true h0, decide_eq_true (by omega)] at this
  cases this
/-- a method that asks for a picture: R its answer, else InvalidPicture -/
def spP1 (R : Alb → Int → D) : SpD := fun ds M Q E => ∃ (a : Alb) (d : D), AlbOk a ∧ D.sm 8 d = true ∧ ds = [.obj "Album" (albF a), d] ∧ (∀ i, d = .int i → 0 ≤ i → i < a.many → Q (R a i) M) ∧ (isNum d 0 (a.many - 1) = false → E "InvalidPicture" [("given", d), ("code", .str "InvalidPicture")] M)
def spP2 (R : Alb → Int → Int → D) : SpD := fun ds M Q E => ∃ (a : Alb) (d1 d2 : D), AlbOk a ∧ D.sm 8 d1 = true ∧ D.sm 8 d2 = true ∧ ds = [.obj "Album" (albF a), d1, d2] ∧ (∀ i j, d1 = .int i → d2 = .int j → 0 ≤ i → i < a.many → 0 ≤ j → j < a.many → Q (R a i j) M) ∧
  (isNum d1 0 (a.many - 1) = false → E "InvalidPicture" [("given", d1), ("code", .str "InvalidPicture")] M) ∧ (∀ i, d1 = .int i → 0 ≤ i → i < a.many → isNum d2 0 (a.many - 1) = false → E "InvalidPicture" [("given", d2), ("code", .str "InvalidPicture")] M)
def sp_Album_class_of : SpD := spP1 fun a i => .lst ((clsA a i).map .int)
def sp_Album_leader : SpD := spP1 fun a i => .int (lead a i)
def sp_Album_leaders : SpD := fun ds M Q _ => ∃ (a : Alb), AlbOk a ∧ ds = [.obj "Album" (albF a)] ∧ Q (.lst ((leadsA a).map .int)) M
def sp_Album_is_sound : SpD := fun ds M Q _ => ∃ (a : Alb), AlbOk a ∧ ds = [.obj "Album" (albF a)] ∧ ∀ b : Bool, (b = true ↔ Sound a.many a.says) → Q (.bl b) M
section
variable {M : Mm} {Q : D → Mm → Prop} {E : Str → List (Str × D) → Mm → Prop} {i : Int} {a : Alb}
theorem lf_needp (A : AlbOk a) (h0 : 0 ≤ i) (h1 : i < a.many) (q : Q .non M) : sp_Album_need_picture [.obj "Album" (albF a), .int i] M Q E := ⟨a, .int i, A, sm_int, rfl, fun _ => q, fun z => by
  have : (decide (0 ≤ i) && decide (i ≤ (a.many : Int) - 1)) = false := z
  rw [decide_eq_true h0, decide_eq_true (by omega)] at this
  cases this⟩
theorem lf_clsof (A : AlbOk a) (h0 : 0 ≤ i) (h1 : i < a.many) (q : Q (.lst ((clsA a i).map .int)) M) : sp_Album_class_of [.obj "Album" (albF a), .int i] M Q E := ⟨a, .int i, A, sm_int, rfl, fun j e _ _ => by cases e; exact q, fun z => absurd z (isNum_in h0 h1)⟩
theorem lf_leader (A : AlbOk a) (h0 : 0 ≤ i) (h1 : i < a.many) (q : Q (.int (lead a i)) M) : sp_Album_leader [.obj "Album" (albF a), .int i] M Q E := ⟨a, .int i, A, sm_int, rfl, fun j e _ _ => by cases e; exact q, fun z => absurd z (isNum_in h0 h1)⟩
end
--lf: lf_needp AS CD CD
theorem lf_needpF {M : Mm} {Q : D → Mm → Prop} {E : Str → List (Str × D) → Mm → Prop} {a : Alb} {d : D} (A : AlbOk a) (hd : D.sm 8 d = true) (hF : isNum d 0 (a.many - 1) = false) (q : E "InvalidPicture" [("given", d), ("code", .str "InvalidPicture")] M) : sp_Album_need_picture [.obj "Album" (albF a), d] M Q E :=
  ⟨a, d, A, hd, rfl, (fun z => by rw [hF] at z; cases z), fun _ => q⟩
--lf: lf_clsof AS CD CD
--lf: lf_needpF AS SM AS
theorem lf_leaderF {M : Mm} {Q : D → Mm → Prop} {E : Str → List (Str × D) → Mm → Prop} {a : Alb} {d : D} (A : AlbOk a) (hd : D.sm 8 d = true) (hF : isNum d 0 (a.many - 1) = false) (q : E "InvalidPicture" [("given", d), ("code", .str "InvalidPicture")] M) : sp_Album_leader [.obj "Album" (albF a), d] M Q E :=
  ⟨a, d, A, hd, rfl, (fun i e h0 h1 => by subst e; exact absurd hF (isNum_in h0 h1)), fun _ => q⟩
--lf: lf_leaderF AS SM AS
--lf: lf_leader AS CD CD
def sp__law_any : SpD := fun ds M Q _ => ∃ (p : Addr) (most size : Int), BagAt M p ∧ 2 ≤ most ∧ most ≤ 24 ∧ 0 ≤ size ∧ size ≤ 40 ∧ ds = [.ptr p, .int most, .int size] ∧ ∀ (m : Nat) says M', SaysOk m says → 2 ≤ m → m ≤ most.toNat → says.length ≤ size.toNat → BagAt M' p → Keep p M M' → Q (.tup [.int m, .lst (says.map Say.d)]) M'
def sp__law_made : SpD := fun ds M Q _ => ∃ (m : Nat) (says : List Say), SaysOk m says ∧ ds = [.tup [.int m, .lst (says.map Say.d)]] ∧ ∀ a, AlbOk a → a.many = m → a.says = says → Q (.obj "Album" (albF a)) M
def sp_Album_is_single : SpD := spP1 fun a i => .bl (decide (lead a i ∈ a.sing))
def sp_Album_are_tied : SpD := spP2 fun a i j => .bl (decide (lead a i = lead a j))
theorem lf_leaders {M : Mm} {Q : D → Mm → Prop} {E : Str → List (Str × D) → Mm → Prop} {a : Alb} (A : AlbOk a) (q : Q (.lst ((leadsA a).map .int)) M) : sp_Album_leaders [.obj "Album" (albF a)] M Q E := ⟨a, A, rfl, q⟩
--lf: lf_leaders AS
def sp_Album_classes : SpD := fun ds M Q _ => ∃ (a : Alb), AlbOk a ∧ ds = [.obj "Album" (albF a)] ∧ Q (.lst ((leadsA a).map fun i => .lst ((clsA a i).map .int))) M
def sp_Album_name_of : SpD := spP1 fun a i => match nameL a i with | [] => .non | s :: _ => .str s
def sp_Album_are_barred : SpD := spP2 fun a i j => .bl (barA a i j)
def sp__law_single : SpD := fun ds M Q _ => ∃ (m : Nat) (says : List Say) (ps : List Int) (x : D), SaysOk m says ∧ ds = [.tup [.int m, .lst (says.map Say.d)], .lst [.lst (ps.map .int), x]] ∧ Q (.bl (!((says.filter (nobIn ps)).map Say.d).isEmpty)) M
def sp__law_parts : SpD := fun ds M Q _ => ∃ (m : Nat) (says : List Say), SaysOk m says ∧ ds = [.tup [.int m, .lst (says.map Say.d)]] ∧ ∀ ps, Pts m (ties says) ps → (ps.Pairwise fun p q => hdP p < hdP q) → Q (.lst (ps.map partD)) M
theorem lf_parts {M : Mm} {Q : D → Mm → Prop} {E : Str → List (Str × D) → Mm → Prop} {m : Nat} {says : List Say} (ok : SaysOk m says) (q : ∀ ps, Pts m (ties says) ps → (ps.Pairwise fun p q => hdP p < hdP q) → Q (.lst (ps.map partD)) M) : sp__law_parts [.tup [.int m, .lst (says.map Say.d)]] M Q E := ⟨m, says, ok, rfl, q⟩
theorem lf_single {M : Mm} {Q : D → Mm → Prop} {E : Str → List (Str × D) → Mm → Prop} {m : Nat} {says : List Say} {ps : List Int} {x : D} (ok : SaysOk m says) (q : Q (.bl (!((says.filter (nobIn ps)).map Say.d).isEmpty)) M) : sp__law_single [.tup [.int m, .lst (says.map Say.d)], .lst [.lst (ps.map .int), x]] M Q E := ⟨m, says, ps, x, ok, rfl, q⟩
def sp__law_sound : SpD := fun ds M Q _ => ∃ (m : Nat) (says : List Say), SaysOk m says ∧ ds = [.tup [.int m, .lst (says.map Say.d)]] ∧ ∀ b : Bool, (b = true ↔ Sound m says) → Q (.bl b) M
def sp__law_person : SpD := fun ds M Q _ => ∃ (p : Addr) (pe : List Int) (nms : List (List Nat)), BagAt M p ∧ 0 < pe.length ∧ pe.length ≤ 24 ∧ NamesL 4 nms ∧ (∀ x ∈ pe, 0 ≤ x ∧ x < 4) ∧ ds = [.ptr p, .lst (pe.map .int), .lst (nms.map fun l => .str (tx l))] ∧ ∀ d M', (d = .non ∨ ∃ s, d = Say.d s ∧ TrueS pe nms s) → BagAt M' p → Keep p M M' → Q d M'
def sp__law_true : SpD := fun ds M Q _ => ∃ (p : Addr) (most size : Int), BagAt M p ∧ 1 ≤ most ∧ most ≤ 24 ∧ 0 ≤ size ∧ size ≤ 40 ∧ ds = [.ptr p, .int most, .int size] ∧ ∀ (m : Nat) says M', SaysOk m says → 1 ≤ m → m ≤ most.toNat → says.length ≤ size.toNat → Sound m says → BagAt M' p → Keep p M M' → Q (.tup [.int m, .lst (says.map Say.d)]) M'
theorem lf_person {M M0 : Mm} {Q : D → Mm → Prop} {E : Str → List (Str × D) → Mm → Prop} {p : Addr} {pe : List Int} {nms : List (List Nat)} (hb : BagAt M p) (kp : Keep p M0 M) (h0 : 0 < pe.length) (h1 : pe.length ≤ 24) (hn : NamesL 4 nms) (hr : ∀ x ∈ pe, 0 ≤ x ∧ x < 4)
    (q : ∀ d M', (d = .non ∨ ∃ s, d = Say.d s ∧ TrueS pe nms s) → BagAt M' p → Keep p M0 M' → Q d M') : sp__law_person [.ptr p, .lst (pe.map .int), .lst (nms.map fun l => .str (tx l))] M Q E := ⟨p, pe, nms, hb, h0, h1, hn, hr, rfl, fun d M' a b c => q d M' a b (kp.trans c)⟩
--lf: lf_person AS AS CD CD AS AS I5
section
variable {M M0 : Mm} {Q : D → Mm → Prop} {E : Str → List (Str × D) → Mm → Prop} {p : Addr} {most size : Int} {m : Nat} {says : List Say} {a : Alb}
theorem lf_any (hb : BagAt M p) (kp : Keep p M0 M) (m0 : 2 ≤ most) (m1 : most ≤ 24) (z0 : 0 ≤ size) (z1 : size ≤ 40) (q : ∀ (m : Nat) says M', SaysOk m says → 2 ≤ m → m ≤ most.toNat → says.length ≤ size.toNat → BagAt M' p → Keep p M0 M' → Q (.tup [.int m, .lst (says.map Say.d)]) M') : sp__law_any [.ptr p, .int most, .int size] M Q E :=
  ⟨p, most, size, hb, m0, m1, z0, z1, rfl, fun m says M' a b c d e k => q m says M' a b c d e (kp.trans k)⟩
theorem lf_true (hb : BagAt M p) (kp : Keep p M0 M) (m0 : 1 ≤ most) (m1 : most ≤ 24) (z0 : 0 ≤ size) (z1 : size ≤ 40) (q : ∀ (m : Nat) says M', SaysOk m says → 1 ≤ m → m ≤ most.toNat → says.length ≤ size.toNat → Sound m says → BagAt M' p → Keep p M0 M' → Q (.tup [.int m, .lst (says.map Say.d)]) M') : sp__law_true [.ptr p, .int most, .int size] M Q E :=
  ⟨p, most, size, hb, m0, m1, z0, z1, rfl, fun m says M' a b c d s e k => q m says M' a b c d s e (kp.trans k)⟩
theorem lf_mkd (ok : SaysOk m says) (q : ∀ a, AlbOk a → a.many = m → a.says = says → Q (.obj "Album" (albF a)) M) : sp__law_made [.tup [.int m, .lst (says.map Say.d)]] M Q E := ⟨m, says, ok, rfl, q⟩
theorem lf_sndL (ok : SaysOk m says) (q : ∀ b : Bool, (b = true ↔ Sound m says) → Q (.bl b) M) : sp__law_sound [.tup [.int m, .lst (says.map Say.d)]] M Q E := ⟨m, says, ok, rfl, q⟩
theorem lf_sndA (A : AlbOk a) (q : ∀ b : Bool, (b = true ↔ Sound a.many a.says) → Q (.bl b) M) : sp_Album_is_sound [.obj "Album" (albF a)] M Q E := ⟨a, A, rfl, q⟩
end
--lf: lf_any AS AS CD CD CD CD I9
--lf: lf_true AS AS CD CD CD CD I10
--lf: lf_mkdS AS AS I4S
--lf: lf_mkd AS I4
--lf: lf_sndL AS I2
--lf: lf_sndA AS I2
theorem lf_mkA {M : Mm} {Q : D → Mm → Prop} {E : Str → List (Str × D) → Mm → Prop} {m : Nat} {says : List Say} {x : D} {i : Int} {p : Addr} (ok : SaysOk m says) (hx : x.seq = some (says.map Say.d)) (hi : i = (m : Int)) (hp : M p = none) (q : ∀ a, AlbOk a → a.many = m → a.says = says → Q (.obj "Album" (albF a)) M) :
    sp_Album___init__ [.ptr p, .int i, x] (M.put p (.o "Album" [])) (fun d M' => d = .non ∧ FrzK Q (.ptr p) M') E := by
  subst hi
  refine ⟨p, .int m, x, Mm.put_same, rfl, .inl ⟨m, says, ok, rfl, hx, fun a A h1 h2 => ⟨rfl, p, _, rfl, Mm.put_same, ?_⟩⟩⟩
  rw [Mm.put_put, Mm.put_del hp]
  exact q a A h1 h2
def oddD : List D := [.non, .str "a", .int (-1), .bl true, .tup [.int 0], .lst [.int 0], .str "0", .int (10 ^ 20)]
def sp__law_odd : SpD := fun ds M Q _ => ds = [] ∧ Q (.lst oddD) M
def specA (a : Alb) : D := .tup [.int a.many, .lst (a.says.map Say.d)]
def sp__law_part : SpD := fun ds M Q _ => ∃ (a : Alb) (i : Int), AlbOk a ∧ 0 ≤ i ∧ i < a.many ∧ ds = [.tup [.int a.many, .lst (a.says.map Say.d)], .int i] ∧ Q (partD (partC a i)) M
def sp__law_bars : SpD := fun ds M Q _ => ∃ (a : Alb) (i j : Int), AlbOk a ∧ 0 ≤ i ∧ i < a.many ∧ 0 ≤ j ∧ j < a.many ∧ ds = [.tup [.int a.many, .lst (a.says.map Say.d)], partD (partC a i), partD (partC a j)] ∧ Q (.bl (bars0 a i j)) M
def sp__law_barred : SpD := fun ds M Q _ => ∃ (a : Alb) (i j : Int), AlbOk a ∧ 0 ≤ i ∧ i < a.many ∧ 0 ≤ j ∧ j < a.many ∧ ds = [.tup [.int a.many, .lst (a.says.map Say.d)], .int i, .int j] ∧ Q (.bl (barA a i j)) M
section
variable {M : Mm} {Q : D → Mm → Prop} {E : Str → List (Str × D) → Mm → Prop} {a : Alb} {i j : Int}
theorem lf_partsA (A : AlbOk a) (q : Q (.lst ((leadsA a).map fun i => partD (partC a i))) M) : sp__law_parts [.tup [.int a.many, .lst (a.says.map Say.d)]] M Q E := ⟨a.many, a.says, A.s, rfl, fun ps P hs => by
  rw [parts_canon A P hs, List.map_map]; exact q⟩
theorem lf_part (A : AlbOk a) (h0 : 0 ≤ i) (h1 : i < a.many) (q : Q (partD (partC a i)) M) : sp__law_part [.tup [.int a.many, .lst (a.says.map Say.d)], .int i] M Q E := ⟨a, i, A, h0, h1, rfl, q⟩
theorem lf_bars (A : AlbOk a) (h0 : 0 ≤ i) (h1 : i < a.many) (g0 : 0 ≤ j) (g1 : j < a.many) (q : Q (.bl (bars0 a i j)) M) : sp__law_bars [.tup [.int a.many, .lst (a.says.map Say.d)], partD (partC a i), partD (partC a j)] M Q E := ⟨a, i, j, A, h0, h1, g0, g1, rfl, q⟩
theorem lf_barred (A : AlbOk a) (h0 : 0 ≤ i) (h1 : i < a.many) (g0 : 0 ≤ j) (g1 : j < a.many) (q : Q (.bl (barA a i j)) M) : sp__law_barred [.tup [.int a.many, .lst (a.says.map Say.d)], .int i, .int j] M Q E := ⟨a, i, j, A, h0, h1, g0, g1, rfl, q⟩
theorem lf_singleC (A : AlbOk a) (h0 : 0 ≤ i) (h1 : i < a.many) (q : Q (.bl (decide (lead a i ∈ a.sing))) M) : sp__law_single [.tup [.int a.many, .lst (a.says.map Say.d)], partD (partC a i)] M Q E := ⟨a.many, a.says, (partC a i).1, .lst ((partC a i).2.map .str), A.s, rfl, by
  rw [show (partC a i).1 = clsA a i from rfl, single_eq A h0 h1]; exact q⟩
end
--lf: lf_partsA AS
--lf: lf_part AS CD CD
--lf: lf_bars AS CD CD CD CD
--lf: lf_barred AS CD CD CD CD
--lf: lf_singleC AS CD CD
--lf: lf_parts AS I3
--lf: lf_single AS
/-- a law may ask that an album's spec be told by the album -/
structure SubstOn : Prop where
theorem lf_P1 {R : Alb → Int → D} {M : Mm} {Q : D → Mm → Prop} {E : Str → List (Str × D) → Mm → Prop} {a : Alb} {i : Int} (A : AlbOk a) (h0 : 0 ≤ i) (h1 : i < a.many) (q : Q (R a i) M) : spP1 R [.obj "Album" (albF a), .int i] M Q E := ⟨a, .int i, A, sm_int, rfl, fun j e _ _ => by cases e; exact q, fun z => absurd z (isNum_in h0 h1)⟩
theorem lf_P1F {R : Alb → Int → D} {M : Mm} {Q : D → Mm → Prop} {E : Str → List (Str × D) → Mm → Prop} {a : Alb} {d : D} (A : AlbOk a) (hd : D.sm 8 d = true) (hF : isNum d 0 (a.many - 1) = false) (q : E "InvalidPicture" [("given", d), ("code", .str "InvalidPicture")] M) : spP1 R [.obj "Album" (albF a), d] M Q E :=
  ⟨a, d, A, hd, rfl, (fun i e h0 h1 => by subst e; exact absurd hF (isNum_in h0 h1)), fun _ => q⟩
theorem lf_P2 {R : Alb → Int → Int → D} {M : Mm} {Q : D → Mm → Prop} {E : Str → List (Str × D) → Mm → Prop} {a : Alb} {i j : Int} (A : AlbOk a) (h0 : 0 ≤ i) (h1 : i < a.many) (g0 : 0 ≤ j) (g1 : j < a.many) (q : Q (R a i j) M) : spP2 R [.obj "Album" (albF a), .int i, .int j] M Q E :=
  ⟨a, .int i, .int j, A, sm_int, sm_int, rfl, fun i' j' e1 e2 _ _ _ _ => by cases e1; cases e2; exact q, fun z => absurd z (isNum_in h0 h1), fun _ _ _ _ z => absurd z (isNum_in g0 g1)⟩
theorem lf_P2Fa {R : Alb → Int → Int → D} {M : Mm} {Q : D → Mm → Prop} {E : Str → List (Str × D) → Mm → Prop} {a : Alb} {d d2 : D} (A : AlbOk a) (hd : D.sm 8 d = true) (hd2 : D.sm 8 d2 = true) (hF : isNum d 0 (a.many - 1) = false) (q : E "InvalidPicture" [("given", d), ("code", .str "InvalidPicture")] M) : spP2 R [.obj "Album" (albF a), d, d2] M Q E :=
  ⟨a, d, d2, A, hd, hd2, rfl, (fun i j e _ h0 h1 => by subst e; exact absurd hF (isNum_in h0 h1)), fun _ => q, fun i e h0 h1 => by subst e; exact absurd hF (isNum_in h0 h1)⟩
theorem lf_P2Fb {R : Alb → Int → Int → D} {M : Mm} {Q : D → Mm → Prop} {E : Str → List (Str × D) → Mm → Prop} {a : Alb} {d2 : D} {i : Int} (A : AlbOk a) (h0 : 0 ≤ i) (h1 : i < a.many) (hd2 : D.sm 8 d2 = true) (hF : isNum d2 0 (a.many - 1) = false) (q : E "InvalidPicture" [("given", d2), ("code", .str "InvalidPicture")] M) : spP2 R [.obj "Album" (albF a), .int i, d2] M Q E :=
  ⟨a, .int i, d2, A, sm_int, hd2, rfl, (fun i' j e e2 _ _ h0 h1 => by subst e2; exact absurd hF (isNum_in h0 h1)), fun z => absurd z (isNum_in h0 h1), fun _ _ _ _ _ => q⟩
section
variable {M : Mm} {Q : D → Mm → Prop} {E : Str → List (Str × D) → Mm → Prop} {a : Alb} {i j : Int} {d d2 : D} {m : Nat} {says : List Say}
theorem lf_mkdS (z : SubstOn) (ok : SaysOk m says) (q : ∀ a, AlbOk a → a.many = m → a.says = says → Q (.obj "Album" (albF a)) M) : sp__law_made [.tup [.int m, .lst (says.map Say.d)]] M Q E := ⟨m, says, ok, rfl, q⟩
theorem lf_classes (A : AlbOk a) (q : Q (.lst ((leadsA a).map fun i => .lst ((clsA a i).map .int))) M) : sp_Album_classes [.obj "Album" (albF a)] M Q E := ⟨a, A, rfl, q⟩
theorem lf_clsofF (A : AlbOk a) (hd : D.sm 8 d = true) (hF : isNum d 0 (a.many - 1) = false) (q : E "InvalidPicture" [("given", d), ("code", .str "InvalidPicture")] M) : sp_Album_class_of [.obj "Album" (albF a), d] M Q E := lf_P1F A hd hF q
theorem lf_nmof (A : AlbOk a) (h0 : 0 ≤ i) (h1 : i < a.many) (q : Q (match nameL a i with | [] => .non | s :: _ => .str s) M) : sp_Album_name_of [.obj "Album" (albF a), .int i] M Q E := lf_P1 A h0 h1 q
theorem lf_nmofF (A : AlbOk a) (hd : D.sm 8 d = true) (hF : isNum d 0 (a.many - 1) = false) (q : E "InvalidPicture" [("given", d), ("code", .str "InvalidPicture")] M) : sp_Album_name_of [.obj "Album" (albF a), d] M Q E := lf_P1F A hd hF q
theorem lf_issg (A : AlbOk a) (h0 : 0 ≤ i) (h1 : i < a.many) (q : Q (.bl (decide (lead a i ∈ a.sing))) M) : sp_Album_is_single [.obj "Album" (albF a), .int i] M Q E := lf_P1 A h0 h1 q
theorem lf_issgF (A : AlbOk a) (hd : D.sm 8 d = true) (hF : isNum d 0 (a.many - 1) = false) (q : E "InvalidPicture" [("given", d), ("code", .str "InvalidPicture")] M) : sp_Album_is_single [.obj "Album" (albF a), d] M Q E := lf_P1F A hd hF q
theorem lf_tied (A : AlbOk a) (h0 : 0 ≤ i) (h1 : i < a.many) (g0 : 0 ≤ j) (g1 : j < a.many) (q : Q (.bl (decide (lead a i = lead a j))) M) : sp_Album_are_tied [.obj "Album" (albF a), .int i, .int j] M Q E := lf_P2 A h0 h1 g0 g1 q
theorem lf_tiedFa (A : AlbOk a) (hd : D.sm 8 d = true) (hd2 : D.sm 8 d2 = true) (hF : isNum d 0 (a.many - 1) = false) (q : E "InvalidPicture" [("given", d), ("code", .str "InvalidPicture")] M) : sp_Album_are_tied [.obj "Album" (albF a), d, d2] M Q E := lf_P2Fa A hd hd2 hF q
theorem lf_tiedFb (A : AlbOk a) (h0 : 0 ≤ i) (h1 : i < a.many) (hd2 : D.sm 8 d2 = true) (hF : isNum d2 0 (a.many - 1) = false) (q : E "InvalidPicture" [("given", d2), ("code", .str "InvalidPicture")] M) : sp_Album_are_tied [.obj "Album" (albF a), .int i, d2] M Q E := lf_P2Fb A h0 h1 hd2 hF q
theorem lf_arbar (A : AlbOk a) (h0 : 0 ≤ i) (h1 : i < a.many) (g0 : 0 ≤ j) (g1 : j < a.many) (q : Q (.bl (barA a i j)) M) : sp_Album_are_barred [.obj "Album" (albF a), .int i, .int j] M Q E := lf_P2 A h0 h1 g0 g1 q
theorem lf_arbarFa (A : AlbOk a) (hd : D.sm 8 d = true) (hd2 : D.sm 8 d2 = true) (hF : isNum d 0 (a.many - 1) = false) (q : E "InvalidPicture" [("given", d), ("code", .str "InvalidPicture")] M) : sp_Album_are_barred [.obj "Album" (albF a), d, d2] M Q E := lf_P2Fa A hd hd2 hF q
theorem lf_arbarFb (A : AlbOk a) (h0 : 0 ≤ i) (h1 : i < a.many) (hd2 : D.sm 8 d2 = true) (hF : isNum d2 0 (a.many - 1) = false) (q : E "InvalidPicture" [("given", d2), ("code", .str "InvalidPicture")] M) : sp_Album_are_barred [.obj "Album" (albF a), .int i, d2] M Q E := lf_P2Fb A h0 h1 hd2 hF q
end
--lf: lf_classes AS
--lf: lf_clsofF AS SM AS
--lf: lf_nmof AS CD CD
--lf: lf_nmofF AS SM AS
--lf: lf_issg AS CD CD
--lf: lf_issgF AS SM AS
--lf: lf_tied AS CD CD CD CD
--lf: lf_tiedFb AS CD CD SM AS
--lf: lf_tiedFa AS SM SM AS
--lf: lf_arbar AS CD CD CD CD
--lf: lf_arbarFb AS CD CD SM AS
--lf: lf_arbarFa AS SM SM AS
--lf: lf_ixC AS CD CD
theorem lf_odd {M : Mm} {Q : D → Mm → Prop} {E : Str → List (Str × D) → Mm → Prop} (q : Q (.lst oddD) M) : sp__law_odd [] M Q E := ⟨rfl, q⟩
--lf: lf_odd
def sp_saying_text : SpD := fun ds M Q _ => ∃ s : Say, s.ok 24 ∧ ds = [s.d] ∧ Q (.str (tx (sayL s))) M
abbrev sp__law_text : SpD := sp_saying_text
def sp_number_in : SpD := fun ds M Q _ => ∃ (l : List Nat) (m : Int), PyData.strOk (tx l) = true ∧ l.length ≤ 100000 ∧ ds = [.str (tx l), .int m] ∧ Q (optI (numIn l m)) M
def sp_item_in : SpD := fun ds M Q _ => ∃ (l : List Nat), PyData.strOk (tx l) = true ∧ l.length ≤ 100000 ∧ ds = [.str (tx l)] ∧ Q (itemIn l) M
def sp_read_saying : SpD := fun ds M Q E => ∃ v, ds = [v] ∧ ((∃ (l : List Nat), v = .str (tx l) ∧ PyData.strOk (tx l) = true ∧ l.length ≤ 100000 ∧ (isSay (readT (wordsL l)) = true → Q (readT (wordsL l)) M) ∧ (isSay (readT (wordsL l)) = false → E "InvalidText" [("line", .int 0), ("code", .str "InvalidText")] M)) ∨
  (D.sm 8 v = true ∧ (∀ s, v ≠ .str s) ∧ E "InvalidText" [("line", .int 0), ("code", .str "InvalidText")] M))
def sp__law_read : SpD := fun ds M Q _ => ∃ (l : List Nat), PyData.strOk (tx l) = true ∧ l.length ≤ 100000 ∧ ds = [.str (tx l)] ∧ Q (if isSay (readT (wordsL l)) = true then readT (wordsL l) else .non) M
section
variable {M : Mm} {Q : D → Mm → Prop} {E : Str → List (Str × D) → Mm → Prop} {l : List Nat} {m : Int} {s : Say} {v : D}
theorem lf_stext (h : s.ok 24) (q : Q (.str (tx (sayL s))) M) : sp_saying_text [s.d] M Q E := ⟨s, h, rfl, q⟩
theorem lf_numin (ok : PyData.strOk (tx l) = true) (hl : l.length ≤ 100000) (q : Q (optI (numIn l m)) M) : sp_number_in [.str (tx l), .int m] M Q E := ⟨l, m, ok, hl, rfl, q⟩
theorem lf_itemin (ok : PyData.strOk (tx l) = true) (hl : l.length ≤ 100000) (q : Q (itemIn l) M) : sp_item_in [.str (tx l)] M Q E := ⟨l, ok, hl, rfl, q⟩
theorem lf_readS (h : s.ok 24) (q : Q s.d M) : sp_read_saying [.str (tx (sayL s))] M Q E := ⟨_, rfl, .inl ⟨sayL s, rfl, (say_tx h).1, by have := (say_tx h).2; omega, fun _ => by rw [say_reads h]; exact q, fun z => by rw [say_reads h, (say_sm h (by omega)).2] at z; cases z⟩⟩
theorem lf_lread (ok : PyData.strOk (tx l) = true) (hl : l.length ≤ 100000) (q : Q (if isSay (readT (wordsL l)) = true then readT (wordsL l) else .non) M) : sp__law_read [.str (tx l)] M Q E := ⟨l, ok, hl, rfl, q⟩
end
--lf: lf_stext AS
--lf: lf_numin STOK LN
--lf: lf_itemin STOK LN
--lf: lf_readS AS
--lf: lf_lread STOK LN
theorem lf_alen {M : Mm} {Q : D → Mm → Prop} {E : Str → List (Str × D) → Mm → Prop} {a : Alb} (A : AlbOk a) (q : Q (.int a.says.length) M) : sp_Album___len__ [.obj "Album" (albF a)] M (fun d M2 => ∃ n : Int, d = .int n ∧ 0 ≤ n ∧ n < 2 ^ 63 ∧ Q (.int n) M2) E := ⟨a, rfl, _, rfl, by omega, by have := A.s.l; omega, q⟩
--lf: lf_alen AS
theorem lf_amany {M : Mm} {Q : D → Mm → Prop} {E : Str → List (Str × D) → Mm → Prop} {a : Alb} (q : Q (.int a.many) M) : sp_Album_many [.obj "Album" (albF a)] M Q E := ⟨a, rfl, q⟩
theorem lf_asays {M : Mm} {Q : D → Mm → Prop} {E : Str → List (Str × D) → Mm → Prop} {a : Alb} (q : Q (.lst (a.says.map Say.d)) M) : sp_Album_sayings [.obj "Album" (albF a)] M Q E := ⟨a, rfl, q⟩
--lf: lf_amany
--lf: lf_asays
local macro_rules | `(tactic| tbr_iter "has") => `(tactic| first | with_reducible exact Has.here | (with_reducible apply Has.there; tbr_iter "has"))
local macro_rules | `(tactic| tbr_iter "xat") => `(tactic| ((with_reducible refine de_xat (d := ?xa_d) ‹XfD _ _ _ _› ?xa_m ‹XAt _ _ _ _ _› ?xa_l ?xa_b ?xa_e); (case xa_m => simp); (case xa_b => with_unfolding_all exact rfl); (case xa_l => first | assumption | exact fld_given ‹_› ‹_› | exact fld_name ‹_› ‹_› | exact fld_at ‹_› ‹_› | exact fld_line ‹_› ‹_› | exact fld_limit ‹_› ‹_› | exact fld_most ‹_› ‹_›); (tbr_iter "deN"); (refine ⟨rfl, ?xa_z⟩)))
local macro_rules | `(tactic| tbr_iter "put") => `(tactic| first | with_reducible exact Put.here | (with_reducible apply Put.there; tbr_iter "put"))
local macro_rules | `(tactic| tbr_iter "mem") => `(tactic| first | with_reducible exact List.mem_cons_self | (with_reducible apply List.mem_cons_of_mem; tbr_iter "mem"))
local macro_rules | `(tactic| tbr_iter "ge") => do let g := Lean.mkIdent `gz; let q := Lean.mkIdent `Qz; `(tactic| (refine de_gen ?_; intro $q $g))
local macro_rules | `(tactic| tbr_iter "gt") => do let g := Lean.mkIdent `gt; let q := Lean.mkIdent `Qt; `(tactic| (refine dt_gen ?_; intro $q $g))
local macro_rules | `(tactic| tbr_iter "fe") => do let g := Lean.mkIdent `gz; let q := Lean.mkIdent `Qz; `(tactic| (with_reducible refine fnE $g ?_; try clear $g; try clear $q))
local macro_rules | `(tactic| tbr_iter "ft") => do let g := Lean.mkIdent `gt; let q := Lean.mkIdent `Qt; `(tactic| (with_reducible refine fnT $g ?_; try clear $g; try clear $q))
local macro_rules | `(tactic| tbr_iter "sm") => `(tactic| first | assumption | (apply sm7; assumption) | with_reducible exact sm_int | with_reducible exact sm_bl | with_reducible exact sm_non | ((with_reducible apply sm_lst); tbr_iter "ln0"; tbr_iter "sms") | ((with_reducible apply sm_tup); tbr_iter "ln0"; tbr_iter "sms") | ((with_reducible apply sm_str); tbr_iter "stok"; (first | tbr_iter "ln0" | (simp only [tx_l]; tbr_iter "ln") | decide +kernel)))
local macro_rules | `(tactic| tbr_iter "sms") => `(tactic| first | assumption | with_reducible exact sms_nil | ((with_reducible apply sms_cons); tbr_iter "sm"; tbr_iter "sms"))
local macro_rules | `(tactic| tbr_iter "ln0") => `(tactic| first | with_unfolding_all exact Nat.le_of_ble_eq_true rfl | tbr_iter "ln")
local macro_rules | `(tactic| tbr_iter "kwr") => `(tactic| simp only [List.map_cons, List.map_nil, List.getD_cons_zero, List.getD_cons_succ, List.cons_append, List.nil_append, List.append_nil])
local macro_rules | `(tactic| tbr_iter "dec") => `(tactic| first | assumption | omega | decide +kernel | (simp only [List.length_cons, List.length_nil, List.length_map]; omega))
local macro_rules | `(tactic| tbr_iter "alls") => `(tactic| first | with_reducible exact AllS.nil | ((with_reducible apply AllS.cons); decide +kernel; tbr_iter "alls"))
local macro_rules | `(tactic| tbr_iter "alli") => `(tactic| first | with_reducible exact AllI.nil | ((with_reducible apply AllI.cons); tbr_iter "alli"))
local macro_rules | `(tactic| tbr_iter "stok") => `(tactic| first | assumption | (apply nameL_ok; assumption) | ((with_reducible apply stok_app); tbr_iter "stok"; tbr_iter "stok") | ((with_reducible apply stok_take); tbr_iter "stok") | ((with_reducible apply stok_drop); tbr_iter "stok") | decide +kernel)
local macro_rules | `(tactic| tbr_iter "alk") => `(tactic| first | with_reducible assumption | with_reducible exact lk_here | ((with_reducible apply lk_there); decide +kernel; tbr_iter "alk"))
local macro_rules | `(tactic| tbr_iter "lkn") => `(tactic| first | with_reducible assumption | with_reducible exact lkn_nil | ((with_reducible apply lkn_there); decide +kernel; tbr_iter "lkn"))
local macro_rules | `(tactic| tbr_iter "iso") => `(tactic| first | ((with_reducible apply isO_o); tbr_iter "lkn") | ((with_reducible apply isO_c); tbr_iter "lk"; tbr_iter "lkn"))
local macro_rules | `(tactic| tbr_iter "ptd") => `(tactic| first | exact putD_nil | exact putD_here | ((apply putD_there); decide +kernel; tbr_iter "ptd"))
local macro_rules | `(tactic| tbr_iter "nd") => `(tactic| with_unfolding_all exact of_decide_eq_true rfl)
local macro_rules | `(tactic| tbr_iter "mems") => `(tactic| first | assumption | exact mems_of (by decide +kernel) | exact (fun _ h => nomatch h) | decide +kernel | simp)
local macro_rules | `(tactic| tbr_iter "pk") => `(tactic| first | with_reducible exact Pk.nil | (with_reducible apply Pk.cons; tbr_iter "mem"; tbr_iter "pk"))
local macro_rules | `(tactic| tbr_iter "ix") => `(tactic| with_reducible first | exact ix0 | exact ix1 | exact ix2 | exact ix3 | exact ix4 | exact ix5)
local macro_rules | `(tactic| tbr_iter "sz") => `(tactic| with_unfolding_all first | (show _ ≤ sizeLine; rw [sizeLine_eq]; first | decide | omega | (simp; done) | (simp; omega)))
local macro_rules | `(tactic| tbr_iter "ln") => `(tactic| first | omega | (have := NameL.small (by assumption); omega) | (simp only [List.length_append, List.length_map, List.length_take, List.length_drop, List.length_cons, List.length_nil]; omega) | (simp only [List.length_append, List.length_take, List.length_drop, List.length_cons, List.length_nil]; split <;> (try simp only [List.length_nil, List.length_cons]) <;> omega) | (simp; omega))
local macro_rules | `(tactic| tbr_iter "ok") => `(tactic| first | assumption | with_reducible exact ok_int | with_reducible exact ok_bl | with_reducible exact ok_non | ((with_reducible apply ok_lst); tbr_iter "oks") | ((with_reducible apply ok_tup); tbr_iter "oks") | (apply sm_okk; assumption; decide) | ((with_reducible apply ok_str); tbr_iter "stok") | with_unfolding_all (simp [D.ok, D.oks, *]; done))
local macro_rules | `(tactic| tbr_iter "oks") => `(tactic| first | assumption | with_reducible exact oks_nil | ((with_reducible apply oks_cons); tbr_iter "ok"; tbr_iter "oks") | (apply sms_okk; assumption; decide))
local macro_rules | `(tactic| tbr_iter "eqn") => `(tactic| first | (simp only [mem_cons, mem_nil, eq_ii, eq_ss, eq_bb, eq_nn, eq_ll, eq_tt, eqs_cons, eqs_nil, eqs_c0, eqs_0c, Bool.and_false, Bool.false_and, Bool.or_false, Bool.false_or, Bool.and_true, Bool.true_and, ← Bool.decide_or, ← Bool.decide_and, eq_non_bl, eq_non_int, eq_non_str, eq_non_tup, eq_non_lst, eq_bl_non, eq_bl_str, eq_bl_tup, eq_bl_lst, eq_int_non, eq_int_str, eq_int_tup, eq_int_lst, eq_str_non, eq_str_bl, eq_str_int, eq_str_tup, eq_str_lst, eq_tup_non, eq_tup_bl, eq_tup_int, eq_tup_str, eq_tup_lst, eq_lst_non, eq_lst_bl, eq_lst_int, eq_lst_str, eq_lst_tup]; exact rfl) | exact rfl)
local macro_rules | `(tactic| tbr_iter "r") => `(tactic| with_unfolding_all rfl)
local macro_rules | `(tactic| tbr_iter "s") => `(tactic| with_reducible assumption)
local macro_rules | `(tactic| tbr_iter "cd") => `(tactic| first | assumption | decide +kernel | omega | (simp only [List.length_map] at *; omega) | (have := NameL.small (by assumption); omega))
local macro_rules | `(tactic| tbr_iter "mb") => `(tactic| (unfold mB; omega))
local macro_rules | `(tactic| tbr_iter "px") => `(tactic| with_reducible first | exact px_const | exact px_name | exact px_bin | exact px_call | exact px_sub | exact px_una | exact px_attr | exact px_tup)
local macro_rules | `(tactic| tbr_iter "pkg") => `(tactic| first | with_reducible exact PkG.nil | ((with_reducible apply PkG.take); tbr_iter "pkg") | ((with_reducible apply PkG.skip); tbr_iter "pkg"))
local macro_rules | `(tactic| tbr_iter "lis") => `(tactic| exact lamIs_of (by assumption) (by assumption) (by decide +kernel) (by first | exact bindsL0 rfl (fun _ _ _ _ => rfl) (fun _ _ _ _ _ => ⟨_, rfl, rfl⟩) | exact bindsL1 rfl (fun _ _ _ _ _ _ => ⟨_, rfl, rfl⟩)))
local macro_rules | `(tactic| tbr_iter "lcs") => `(tactic| first | with_reducible exact LCs.nil | ((with_reducible apply LCs.cons); (tbr_iter "pkg"); (tbr_iter "lis"); (tbr_iter "lcs")))
local macro_rules | `(tactic| tbr_iter "alc") => `(tactic| ((with_reducible apply allOk_cons); intro $(Lean.mkIdent `X2) $(Lean.mkIdent `w2) $(Lean.mkIdent `lin) $(Lean.mkIdent `he2)))
local macro_rules | `(tactic| tbr_iter "goe") => `(tactic| (refine gotE_of (by assumption) (by exact rfl) (by decide +kernel) (by exact rfl) ?_))
local macro_rules | `(tactic| tbr_iter "tv") => `(tactic| with_unfolding_all exact (fun _ => rfl))
local macro_rules | `(tactic| tbr_iter "lk") => `(tactic| first
  | with_unfolding_all assumption
  | exact Keep.get (by assumption) (by tbr_iter "ne") (by assumption)
  | exact Mm.put_same
  | (rw [Mm.put_ne (by tbr_iter "ne")]; tbr_iter "lk"))
local macro_rules | `(tactic| tbr_iter "ty") => `(tactic| first
  | with_unfolding_all exact rfl
  | assumption)
local macro_rules | `(tactic| tbr_iter "kit") => `(tactic| first
  | with_reducible exact kit_NoneType_list
  | with_reducible exact kit_NoneType_tuple
  | with_reducible exact kit_NoneType_bool
  | with_reducible exact kit_NoneType_int
  | with_reducible exact kit_NoneType_str
  | with_reducible exact kit_NoneType_dict
  | with_reducible exact kit_bool_list
  | with_reducible exact kit_bool_tuple
  | with_reducible exact kit_bool_bool
  | with_reducible exact kit_bool_int
  | with_reducible exact kit_bool_str
  | with_reducible exact kit_bool_dict
  | with_reducible exact kit_int_list
  | with_reducible exact kit_int_tuple
  | with_reducible exact kit_int_bool
  | with_reducible exact kit_int_int
  | with_reducible exact kit_int_str
  | with_reducible exact kit_int_dict
  | with_reducible exact kit_str_list
  | with_reducible exact kit_str_tuple
  | with_reducible exact kit_str_bool
  | with_reducible exact kit_str_int
  | with_reducible exact kit_str_str
  | with_reducible exact kit_str_dict
  | with_reducible exact kit_tuple_list
  | with_reducible exact kit_tuple_tuple
  | with_reducible exact kit_tuple_bool
  | with_reducible exact kit_tuple_int
  | with_reducible exact kit_tuple_str
  | with_reducible exact kit_tuple_dict
  | with_reducible exact kit_list_list
  | with_reducible exact kit_list_tuple
  | with_reducible exact kit_list_bool
  | with_reducible exact kit_list_int
  | with_reducible exact kit_list_str
  | with_reducible exact kit_list_dict
  | with_reducible exact kit_dict_list
  | with_reducible exact kit_dict_tuple
  | with_reducible exact kit_dict_bool
  | with_reducible exact kit_dict_int
  | with_reducible exact kit_dict_str
  | with_reducible exact kit_dict_dict)
local macro_rules | `(tactic| tbr_iter "ne") => `(tactic| first
  | assumption
  | exact Ne.symm (by assumption)
  | exact (none_put (by assumption)).1
  | exact (none_put (by assumption)).1.symm
  | exact (none_put (none_put (by assumption)).2).1
  | exact (none_put (none_put (by assumption)).2).1.symm)
local macro_rules | `(tactic| tbr_iter "da") => `(tactic| first
  | (with_reducible apply da_nil)
  | ((with_reducible apply da_cons); (tbr_iter "r"))
  | ((with_reducible apply da_star); (tbr_iter "r"))
  | (with_reducible apply dk_nil)
  | (with_reducible apply dk_cons)
  | (with_reducible apply do_none)
  | (with_reducible apply do_some))
local macro_rules | `(tactic| tbr_iter "ds") => `(tactic| first
  | ((with_reducible apply ds_ret); (tbr_iter "ge"))
  | ((with_reducible apply ds_if); (tbr_iter "gt"))
  | (with_reducible apply ds_retN)
  | ((with_reducible apply ds_expr); (tbr_iter "r"); (tbr_iter "ge"))
  | (with_reducible apply ds_nil)
  | (with_reducible apply ds_pass)
  | ((with_reducible apply ds_setE); (tbr_iter "s"); (tbr_iter "mem"); (tbr_iter "mem"); (tbr_iter "r"); (intro _ _))
  | ((with_reducible apply ds_set); (tbr_iter "s"); (tbr_iter "mem"); (tbr_iter "mem"); (tbr_iter "r"); (tbr_iter "ge"))
  | ((with_reducible apply ds_asgSubA); (tbr_iter "s"); (tbr_iter "r"); (tbr_iter "r"); (tbr_iter "r"); (with_unfolding_all exact (fun _ => rfl)); (tbr_iter "ge"))
  | ((with_reducible apply ds_par2); (tbr_iter "s"); (tbr_iter "mem"); (tbr_iter "mem"); (with_unfolding_all decide); (tbr_iter "mem"); (tbr_iter "mem"); (tbr_iter "r"); (decide +kernel); (tbr_iter "r"); (tbr_iter "r"); (tbr_iter "r"); (tbr_iter "r"))
  | ((with_reducible apply ds_parK1); (tbr_iter "s"); (tbr_iter "mem"); (tbr_iter "r"); (tbr_iter "r"))
  | ((with_reducible apply ds_parK2); (tbr_iter "s"); (tbr_iter "mem"); (tbr_iter "r"); (tbr_iter "r"))
  | ((with_reducible apply ds_par3'); (tbr_iter "s"); (tbr_iter "mem"); (tbr_iter "mem"); (tbr_iter "mem"); (with_unfolding_all decide); (with_unfolding_all decide); (with_unfolding_all decide); (tbr_iter "mem"); (tbr_iter "mem"); (tbr_iter "mem"); (tbr_iter "r"); (tbr_iter "r"); (decide +kernel); (tbr_iter "r"); (tbr_iter "r"); (tbr_iter "r"); (tbr_iter "r"))
  | ((with_reducible apply ds_fld); (tbr_iter "r"))
  | ((with_reducible apply ds_asg); (tbr_iter "r"); (tbr_iter "r"); (tbr_iter "r"))
  | (with_reducible apply ds_break)
  | (with_reducible apply ds_cont)
  | ((with_reducible apply ds_raise); (tbr_iter "s"); (tbr_iter "s"); (decide); (tbr_iter "mem"); (tbr_iter "r"); (tbr_iter "r"); (decide))
  | ((with_reducible apply ds_raise0); (tbr_iter "s"); (tbr_iter "s"); (decide); (tbr_iter "mem")))
local macro_rules | `(tactic| tbr_iter "fin") => `(tactic| first
  | (with_reducible apply po_nx)
  | (with_reducible apply po_rt)
  | (with_reducible apply po_bk)
  | (with_reducible apply po_ct)
  | tbr_iter "fe"
  | tbr_iter "ft"
  | ((with_reducible apply fnN); (tbr_iter "s"))
  | ((with_reducible apply fnR); (tbr_iter "s"))
  | ((with_reducible apply fnB); (tbr_iter "s"))
  | ((with_reducible apply fnC); (tbr_iter "s"))
  | ((with_reducible apply pol_rt); (dsimp only))
  | ((with_reducible apply pol_nx); (dsimp only))
  | ((with_reducible apply pol_bk); (dsimp only))
  | ((with_reducible apply pol_ct); (dsimp only)))
local macro_rules | `(tactic| tbr_iter "dtC") => `(tactic| first
  | ((with_reducible apply dt_chain od_le od_le); tbr_iter "r")
  | ((with_reducible apply dt_chain od_le od_lt); tbr_iter "r")
  | ((with_reducible apply dt_chain od_lt od_le); tbr_iter "r")
  | ((with_reducible apply dt_chain od_lt od_lt); tbr_iter "r")
  | ((with_reducible apply dt_eq); (tbr_iter "s"))
  | ((with_reducible apply dt_ne); (tbr_iter "s"))
  | ((with_reducible apply dt_in); (tbr_iter "s"); (tbr_iter "r"))
  | ((with_reducible apply dtq_eq); (assumption))
  | ((with_reducible apply dtq_in); (assumption); (tbr_iter "r"))
  | ((with_reducible apply dt_notin); (tbr_iter "s"); (tbr_iter "r"))
  | (with_reducible apply dt_cmp od_lt nobeh)
  | (with_reducible apply dt_cmp od_le nobeh)
  | (with_reducible apply dt_cmp od_gt nobeh)
  | (with_reducible apply dt_cmp od_ge nobeh)
  | (with_reducible apply dt_cmp od_is2 nobeh)
  | (with_reducible apply dt_cmp od_isnot2 nobeh))
local macro_rules | `(tactic| tbr_iter "dt") => `(tactic| first
  | (with_reducible apply hT_cmp; tbr_iter "dtC")
  | (with_reducible apply dt_not)
  | (with_reducible apply dt_dw; with_reducible apply dw_and)
  | (with_reducible apply dt_dw; with_reducible apply dw_or)
  | (with_reducible apply dw_and)
  | (with_reducible apply dw_or)
  | (with_reducible apply dw_and1)
  | (with_reducible apply dw_or1)
  | ((with_reducible apply dt_val); (tbr_iter "tv")))
local macro_rules | `(tactic| tbr_iter "deC") => `(tactic| first
  | ((with_reducible apply de_chain od_le od_le); tbr_iter "r")
  | ((with_reducible apply de_chain od_le od_lt); tbr_iter "r")
  | ((with_reducible apply de_chain od_lt od_le); tbr_iter "r")
  | ((with_reducible apply de_chain od_lt od_lt); tbr_iter "r")
  | ((with_reducible apply de_eq); (tbr_iter "s"))
  | ((with_reducible apply de_ne); (tbr_iter "s"))
  | ((with_reducible apply de_in); (tbr_iter "s"); (tbr_iter "r"))
  | ((with_reducible apply de_notin); (tbr_iter "s"); (tbr_iter "r"))
  | (with_reducible apply de_cmp od_lt nobeh)
  | (with_reducible apply de_cmp od_le nobeh)
  | (with_reducible apply de_cmp od_gt nobeh)
  | (with_reducible apply de_cmp od_ge nobeh)
  | (with_reducible apply de_cmp od_is2 nobeh)
  | (with_reducible apply de_cmp od_isnot2 nobeh))
local macro_rules | `(tactic| tbr_iter "deB") => `(tactic| first
  | (with_reducible apply de_bin od_add)
  | (with_reducible apply de_bin od_sub)
  | (with_reducible apply de_bin od_mul)
  | (with_reducible apply de_bin od_mod)
  | (with_reducible apply de_bin od_fdiv)
  | (with_reducible apply de_bin od_pow))
local macro_rules | `(tactic| tbr_iter "deK") => `(tactic| first
  | ((with_reducible apply de_listMm); (with_reducible assumption); (tbr_iter "s"); (tbr_iter "r"); (tbr_iter "mem"); (tbr_iter "mem"))
  | ((with_reducible apply de_lenX); (tbr_iter "s"); (tbr_iter "r"); (tbr_iter "mem"); (tbr_iter "mem"))
  | ((with_reducible apply de_all); (tbr_iter "s"); (tbr_iter "r"); (tbr_iter "mem"); (tbr_iter "mem"))
  | ((with_reducible apply de_any); (tbr_iter "s"); (tbr_iter "r"); (tbr_iter "mem"); (tbr_iter "mem"))
  | ((with_reducible apply de_abs); (tbr_iter "s"); (tbr_iter "r"); (tbr_iter "mem"); (tbr_iter "mem"))
  | ((with_reducible apply de_intT); (tbr_iter "s"); (tbr_iter "r"); (tbr_iter "mem"); (tbr_iter "mem"))
  | ((with_reducible apply de_listC); (tbr_iter "s"); (tbr_iter "r"); (tbr_iter "mem"); (tbr_iter "mem"))
  | ((with_reducible apply de_tupC); (tbr_iter "s"); (tbr_iter "r"); (tbr_iter "mem"); (tbr_iter "mem"))
  | ((with_reducible apply de_strC); (tbr_iter "s"); (tbr_iter "r"); (tbr_iter "mem"); (tbr_iter "mem"))
  | ((with_reducible apply de_isi); (tbr_iter "s"); (tbr_iter "r"); (tbr_iter "r"); (tbr_iter "mem"); (tbr_iter "mem"))
  | ((with_reducible apply de_append'); (tbr_iter "r"); (tbr_iter "r"); (tbr_iter "r"))
  | ((with_reducible apply de_join'); (tbr_iter "r"); (tbr_iter "r"); (tbr_iter "r"))
  | ((with_reducible apply de_split); (tbr_iter "r"); (tbr_iter "r"); (tbr_iter "r"))
  | ((with_reducible apply de_insert); (tbr_iter "r"); (tbr_iter "r"); (tbr_iter "r"); (tbr_iter "r"))
  | ((with_reducible apply de_max); (tbr_iter "s"); (tbr_iter "r"); (tbr_iter "mem"); (tbr_iter "mem"))
  | ((with_reducible apply de_min'); (tbr_iter "s"); (tbr_iter "r"); (tbr_iter "mem"); (tbr_iter "mem"))
  | ((with_reducible apply de_sortSet); (tbr_iter "s"); (tbr_iter "r"); (tbr_iter "r"); (tbr_iter "mem"); (tbr_iter "mem"); (tbr_iter "mem"); (tbr_iter "mem"))
  | ((with_reducible apply de_sorted'); (tbr_iter "s"); (tbr_iter "r"); (tbr_iter "mem"); (tbr_iter "mem"))
  | ((with_reducible apply de_extend); (tbr_iter "r"); (tbr_iter "r"); (tbr_iter "r"))
  | ((with_reducible apply de_setdef); with_unfolding_all exact ⟨rfl, rfl, rfl, rfl⟩)
  | ((with_reducible apply de_count); (tbr_iter "r"); (tbr_iter "r"); (tbr_iter "r"))
  | ((with_reducible apply de_make1); (tbr_iter "s"); (tbr_iter "s"); (tbr_iter "r"); (with_unfolding_all decide); (tbr_iter "mem"); (tbr_iter "r"); (tbr_iter "r"))
  | ((with_reducible apply de_methF); (tbr_iter "s"); (tbr_iter "s"); (tbr_iter "r"); (tbr_iter "r"); (tbr_iter "r"))
  | ((with_reducible apply de_meth0F); (tbr_iter "s"); (tbr_iter "s"); (tbr_iter "r"))
  | ((with_reducible apply de_meth); (tbr_iter "s"); (tbr_iter "r"); (tbr_iter "r"); (tbr_iter "r"))
  | ((with_reducible apply de_meth0); (tbr_iter "s"); (tbr_iter "r"))
  | ((with_reducible apply de_methK); (tbr_iter "s"); (tbr_iter "r"); (tbr_iter "r"); (tbr_iter "r"); (tbr_iter "r"))
  | ((with_reducible apply de_methK0); (tbr_iter "s"); (tbr_iter "r"); (tbr_iter "r"); (tbr_iter "r"))
  | ((with_reducible apply de_makeF1); tbr_iter "s"; tbr_iter "s"; with_unfolding_all decide; tbr_iter "mem"; exact List.mem_cons_self; tbr_iter "r"; with_unfolding_all decide; tbr_iter "r"; tbr_iter "r"; tbr_iter "r"; tbr_iter "r")
  | ((with_reducible apply de_makeF1); tbr_iter "s"; tbr_iter "s"; with_unfolding_all decide; tbr_iter "mem"; exact List.mem_cons_of_mem _ List.mem_cons_self; tbr_iter "r"; with_unfolding_all decide; tbr_iter "r"; tbr_iter "r"; tbr_iter "r"; tbr_iter "r")
  | ((with_reducible apply de_makeF1); tbr_iter "s"; tbr_iter "s"; with_unfolding_all decide; tbr_iter "mem"; exact List.mem_cons_of_mem _ (List.mem_cons_of_mem _ List.mem_cons_self); tbr_iter "r"; with_unfolding_all decide; tbr_iter "r"; tbr_iter "r"; tbr_iter "r"; tbr_iter "r")
  | ((with_reducible apply de_makeF0); tbr_iter "s"; tbr_iter "s"; with_unfolding_all decide; tbr_iter "mem"; exact List.mem_cons_self; tbr_iter "r"; with_unfolding_all decide; tbr_iter "r"; tbr_iter "r"; tbr_iter "r")
  | ((with_reducible apply de_makeF0); tbr_iter "s"; tbr_iter "s"; with_unfolding_all decide; tbr_iter "mem"; exact List.mem_cons_of_mem _ List.mem_cons_self; tbr_iter "r"; with_unfolding_all decide; tbr_iter "r"; tbr_iter "r"; tbr_iter "r")
  | ((with_reducible apply de_makeF0); tbr_iter "s"; tbr_iter "s"; with_unfolding_all decide; tbr_iter "mem"; exact List.mem_cons_of_mem _ (List.mem_cons_of_mem _ List.mem_cons_self); tbr_iter "r"; with_unfolding_all decide; tbr_iter "r"; tbr_iter "r"; tbr_iter "r")
  | ((with_reducible apply de_call1); (tbr_iter "s"); (tbr_iter "s"); (tbr_iter "r"); (decide); (tbr_iter "mem"); (tbr_iter "r"); (tbr_iter "r"))
  | ((with_reducible apply de_callK0); tbr_iter "s"; tbr_iter "s"; with_unfolding_all decide; tbr_iter "mem"; exact List.mem_cons_self; tbr_iter "r"; with_unfolding_all decide; tbr_iter "r"; tbr_iter "r"; tbr_iter "r")
  | ((with_reducible apply de_callK0); tbr_iter "s"; tbr_iter "s"; with_unfolding_all decide; tbr_iter "mem"; exact List.mem_cons_of_mem _ List.mem_cons_self; tbr_iter "r"; with_unfolding_all decide; tbr_iter "r"; tbr_iter "r"; tbr_iter "r")
  | ((with_reducible apply de_callK0); tbr_iter "s"; tbr_iter "s"; with_unfolding_all decide; tbr_iter "mem"; exact List.mem_cons_of_mem _ (List.mem_cons_of_mem _ List.mem_cons_self); tbr_iter "r"; with_unfolding_all decide; tbr_iter "r"; tbr_iter "r"; tbr_iter "r")
  | ((with_reducible apply de_callK1); tbr_iter "s"; tbr_iter "s"; with_unfolding_all decide; tbr_iter "mem"; exact List.mem_cons_self; tbr_iter "r"; with_unfolding_all decide; tbr_iter "r"; tbr_iter "r"; tbr_iter "r"; tbr_iter "r")
  | ((with_reducible apply de_callK1); tbr_iter "s"; tbr_iter "s"; with_unfolding_all decide; tbr_iter "mem"; exact List.mem_cons_of_mem _ List.mem_cons_self; tbr_iter "r"; with_unfolding_all decide; tbr_iter "r"; tbr_iter "r"; tbr_iter "r"; tbr_iter "r")
  | ((with_reducible apply de_callK1); tbr_iter "s"; tbr_iter "s"; with_unfolding_all decide; tbr_iter "mem"; exact List.mem_cons_of_mem _ (List.mem_cons_of_mem _ List.mem_cons_self); tbr_iter "r"; with_unfolding_all decide; tbr_iter "r"; tbr_iter "r"; tbr_iter "r"; tbr_iter "r")
  | ((with_reducible apply de_call0); (tbr_iter "s"); (tbr_iter "s"); (decide); (tbr_iter "mem")))
local macro_rules | `(tactic| tbr_iter "deN") => `(tactic| first
  | ((with_reducible apply de_name); (tbr_iter "has"))
  | ((with_reducible apply de_glob); (tbr_iter "s"); (tbr_iter "mem"); (tbr_iter "s"))
  | ((with_reducible apply de_ty); (tbr_iter "s"); (tbr_iter "mem"); (exact Sc.bt (by tbr_iter "s") _ (by tbr_iter "mem")); (with_reducible first | exact boot_list' | exact boot_tuple' | exact boot_int' | exact boot_str' | exact boot_bool' | exact boot_dict')))
local macro_rules | `(tactic| tbr_iter "de") => `(tactic| first
  | (with_reducible apply hE_name; tbr_iter "deN")
  | (with_reducible apply hE_cmp; tbr_iter "deC")
  | (with_reducible apply hE_bin; tbr_iter "deB")
  | (with_reducible apply hE_call; tbr_iter "deK")
  | ((with_reducible apply hE_attr); (first | (tbr_iter "xat") | ((with_reducible apply de_cval); (tbr_iter "s"); (tbr_iter "s"); (tbr_iter "mem"); (tbr_iter "r")) | ((with_reducible apply de_attrF); (tbr_iter "s"); (tbr_iter "s"); (tbr_iter "r")) | ((with_reducible apply de_attr); (tbr_iter "s"); (tbr_iter "r"))))
  | (with_reducible apply de_int)
  | (with_reducible apply de_str)
  | (with_reducible apply de_bl)
  | (with_reducible apply de_non)
  | (with_reducible apply de_tup)
  | (with_reducible apply de_lst)
  | (with_reducible apply de_una ud_neg)
  | (with_reducible apply de_notB)
  | (with_reducible apply de_one)
  | (with_reducible apply de_and)
  | (with_reducible apply de_or)
  | (with_reducible apply de_ife)
  | (with_reducible apply de_slice)
  | ((with_reducible apply de_iy); tbr_iter "s"; tbr_iter "px")
  | ((with_reducible apply de_dnew); (intro _ _))
  | ((with_reducible apply de_lamA); (tbr_iter "s"); (tbr_iter "s"); (decide +kernel); (tbr_iter "r"); (tbr_iter "r"); (with_reducible assumption))
  | ((with_reducible apply de_lamB2); (tbr_iter "s"); (tbr_iter "s"); (decide +kernel); (tbr_iter "r"); (tbr_iter "r"); (tbr_iter "r")))
local macro_rules | `(tactic| tbr_iter "lf") => `(tactic| first
  | ((with_reducible apply gEx); (first | (with_reducible apply lf_exNs) | (with_reducible apply lf_exK) | ((with_reducible apply lf_sdi); (tbr_iter "lk"); (tbr_iter "r"); (rw [sizeLine_eq]; tbr_iter "ln"); (intro _)) | ((with_reducible apply lf_sds); (tbr_iter "lk"); (tbr_iter "r"); (rw [sizeLine_eq]; tbr_iter "ln"); (intro _)) | ((with_reducible apply lf_sd1); (tbr_iter "lk")) | ((with_reducible apply lf_mth); (tbr_iter "iso"); (tbr_iter "s"); (with_unfolding_all decide)) | ((with_reducible apply lf_mthK); tbr_iter "iso"; tbr_iter "s"; with_unfolding_all decide; exact List.mem_cons_self; (with_unfolding_all exact ⟨of_decide_eq_true rfl, rfl, rfl⟩)) | ((with_reducible apply lf_mthK); tbr_iter "iso"; tbr_iter "s"; with_unfolding_all decide; exact List.mem_cons_of_mem _ List.mem_cons_self; (with_unfolding_all exact ⟨of_decide_eq_true rfl, rfl, rfl⟩)) | ((with_reducible apply lf_mthK); tbr_iter "iso"; tbr_iter "s"; with_unfolding_all decide; exact List.mem_cons_of_mem _ (List.mem_cons_of_mem _ List.mem_cons_self); (with_unfolding_all exact ⟨of_decide_eq_true rfl, rfl, rfl⟩)) | ((with_reducible apply lf_mthK); tbr_iter "iso"; tbr_iter "s"; with_unfolding_all decide; exact List.mem_cons_of_mem _ (List.mem_cons_of_mem _ (List.mem_cons_of_mem _ List.mem_cons_self)); (with_unfolding_all exact ⟨of_decide_eq_true rfl, rfl, rfl⟩)) | ((with_reducible apply lf_app1); (tbr_iter "lk")) | ((with_reducible apply lf_frz); (tbr_iter "lk")) | ((with_reducible apply lf_app2); (tbr_iter "lk"); (rw [sizeLine_eq]); (tbr_iter "ln")) | (with_reducible apply lf_exS) | (with_reducible apply lf_exL) | ((with_reducible apply lf_ext2); (tbr_iter "lk"); (rw [sizeLine_eq]; tbr_iter "ln")) | (with_reducible apply lf_exP) | ((with_reducible apply lf_par2); (tbr_iter "put"); (tbr_iter "put")) | ((with_reducible apply lf_par3); (tbr_iter "put"); (tbr_iter "put"); (tbr_iter "put")) | (with_reducible apply lf_seqL) | (with_reducible apply lf_seqT) | ((with_reducible apply lf_rng1); (tbr_iter "cd"); (tbr_iter "cd")) | ((with_reducible apply lf_rng2); (tbr_iter "cd"); (tbr_iter "cd"); (tbr_iter "cd"); (tbr_iter "cd")) | (with_reducible apply lf_blT) | (with_reducible apply lf_blF) | (with_reducible apply lf_nbT) | (with_reducible apply lf_nbF) | (with_reducible apply lf_allm2) | (with_reducible apply lf_allm) | (with_reducible apply lf_anym) | ((with_reducible apply lf_dcT); (tbr_iter "dec")) | ((with_reducible apply lf_dcF); (tbr_iter "dec")) | ((with_reducible apply lf_ndcT); (tbr_iter "dec")) | ((with_reducible apply lf_ndcF); (tbr_iter "dec")) | (with_reducible refine lf_dc2 (fun hT => ?_) (fun hF => ?_)) | (with_reducible refine lf_ndc2 (fun hF => ?_) (fun hT => ?_)) | (with_reducible refine lf_bl2 ⟨fun hT => ?_, fun hF => ?_⟩) | (with_reducible apply lf_bl) | (with_reducible apply lf_sqL) | (with_reducible apply lf_sqT) | ((with_reducible apply lf_put); (tbr_iter "put")) | ((with_reducible apply lf_seqMQ); (with_reducible assumption)) | ((with_reducible apply lf_seqQ); (with_reducible assumption)) | ((with_reducible apply lf_sqP); (tbr_iter "lk"))))
  | ((with_reducible apply gAnd); (first | ((with_reducible apply lf_tbM); (with_reducible assumption)) | (with_reducible apply lf_nT) | (with_reducible apply lf_nF) | ((with_reducible apply lf_kwl); (tbr_iter "r"); (tbr_iter "kwr")) | ((with_reducible apply lf_lsz); (first | with_unfolding_all exact Nat.le_of_ble_eq_true rfl | tbr_iter "ln")) | ((with_reducible apply lf_pdT); (tbr_iter "dec")) | ((with_reducible apply lf_pdF); (tbr_iter "dec")) | ((with_reducible apply lf_ndT); (tbr_iter "dec")) | ((with_reducible apply lf_ndF); (tbr_iter "dec")) | (with_reducible refine lf_pd2 (fun hT => ?_) (fun hF => ?_)) | (with_reducible refine lf_nd2 (fun hF => ?_) (fun hT => ?_)) | (with_reducible refine lf_nb2 (fun hF => ?_) (fun hT => ?_)) | (with_reducible apply lf_F) | (with_reducible apply lf_T) | (with_reducible refine And.intro (fun hT => ?_) (fun hF => ?_))))
  | ((with_reducible apply g_pIy); (first | (with_reducible apply lf_iyL) | (with_reducible apply lf_iyT) | (with_reducible apply lf_iyS) | ((with_reducible apply lf_iyPi); (tbr_iter "lk"); (with_reducible assumption)) | ((with_reducible apply lf_iyPs); (tbr_iter "lk"); (with_reducible assumption)) | ((with_reducible apply lf_iyPk); (tbr_iter "lk"); (with_reducible assumption)) | ((with_reducible apply lf_iyDi); (with_reducible assumption)) | ((with_reducible apply lf_iyDs); (with_reducible assumption)) | ((with_reducible apply lf_iyDk); (with_reducible assumption)) | ((with_reducible apply lf_iyP); (tbr_iter "lk"))))
  | ((with_reducible apply g_pNe); (first | ((with_reducible apply lf_neS0); (with_reducible assumption)) | ((with_reducible apply lf_nePt); (with_reducible assumption); (with_reducible assumption)) | (with_reducible apply lf_neB) | (with_reducible apply lf_neI) | ((with_reducible apply lf_neS); (tbr_iter "ok"); (tbr_iter "ok")) | ((with_reducible apply lf_ne'); (tbr_iter "ok"); (tbr_iter "ok"); (tbr_iter "eqn"))))
  | ((with_reducible apply gInF); (first | ((with_reducible apply lf_inPi); (with_reducible assumption)) | ((with_reducible apply lf_inPs); (tbr_iter "stok"); (with_reducible assumption)) | (with_reducible apply lf_inP2) | (with_reducible apply lf_inI) | ((with_reducible apply lf_inKi); (with_reducible assumption)) | ((with_reducible apply lf_inKs); (tbr_iter "stok"); (with_reducible assumption)) | ((with_reducible apply lf_inKk); (with_reducible assumption); (with_reducible assumption)) | (with_reducible apply lf_inS) | ((with_reducible apply lf_inT'); (tbr_iter "ok"); (tbr_iter "oks"); (tbr_iter "eqn")) | ((with_reducible apply lf_inL'); (tbr_iter "ok"); (tbr_iter "oks"); (tbr_iter "eqn")) | ((with_reducible apply lf_inP'); (tbr_iter "lk"); (tbr_iter "ok"); (tbr_iter "oks"); (tbr_iter "eqn"))))
  | ((with_reducible apply gInT); (first | ((with_reducible apply lf_ninPt); (with_reducible assumption); (with_reducible assumption)) | (with_reducible apply lf_ninI) | ((with_reducible apply lf_ninKi); (with_reducible assumption)) | ((with_reducible apply lf_ninKs); (tbr_iter "stok"); (with_reducible assumption)) | ((with_reducible apply lf_ninKk); (with_reducible assumption); (with_reducible assumption)) | (with_reducible apply lf_ninS) | ((with_reducible apply lf_ninT'); (tbr_iter "ok"); (tbr_iter "oks"); (tbr_iter "eqn")) | ((with_reducible apply lf_ninL'); (tbr_iter "ok"); (tbr_iter "oks"); (tbr_iter "eqn")) | ((with_reducible apply lf_ninP'); (tbr_iter "lk"); (tbr_iter "ok"); (tbr_iter "oks"); (tbr_iter "eqn"))))
  | ((with_reducible apply g_pSetA); (first | ((with_reducible apply lf_sAl); (tbr_iter "lk")) | ((with_reducible apply lf_sAi); (tbr_iter "lk"); (tbr_iter "r"); (rw [sizeLine_eq]; tbr_iter "ln")) | ((with_reducible apply lf_sAs); (tbr_iter "lk"); (tbr_iter "r"); (rw [sizeLine_eq]; tbr_iter "ln")) | ((with_reducible apply lf_sAk); (tbr_iter "lk"); (tbr_iter "r"); (rw [sizeLine_eq]; tbr_iter "ln"))))
  | ((with_reducible apply gOr); (first | ((with_reducible apply lf_atO); (tbr_iter "s"); (tbr_iter "mem"); (tbr_iter "alk")) | ((with_reducible apply lf_atC); (tbr_iter "lk"); (tbr_iter "s"); (tbr_iter "mem"); (tbr_iter "alk")) | ((with_reducible apply lf_atProp); (tbr_iter "iso"); (tbr_iter "s"); (with_unfolding_all decide)) | (with_reducible apply lf_itL) | (with_reducible apply lf_itT) | (with_reducible apply lf_itS)))
  | ((with_reducible apply g_pFldS); (first | ((with_reducible apply lf_fldPP); (tbr_iter "s"); (tbr_iter "mem"); (with_unfolding_all exact Nat.le_of_ble_eq_true rfl); (tbr_iter "ptd")) | ((with_reducible apply lf_fldP); (tbr_iter "lk"); (tbr_iter "s"); (tbr_iter "mem"); (with_unfolding_all exact Nat.le_of_ble_eq_true rfl); (tbr_iter "ptd"))))
  | (with_reducible apply lf_oi)
  | ((with_reducible apply g_pAdd); (first | (with_reducible apply lf_addI) | ((with_reducible apply lf_addT); (rw [sizeLine_eq]); (tbr_iter "ln")) | ((with_reducible apply lf_addL); (rw [sizeLine_eq]); (first | tbr_iter "ln" | with_unfolding_all exact Nat.le_of_ble_eq_true rfl)) | ((with_reducible apply lf_addX); (tbr_iter "ln")) | ((with_reducible apply lf_addS); (tbr_iter "sz"))))
  | ((with_reducible apply g_pI2); (first | (with_reducible apply lf_T2) | ((with_reducible apply lf_mod); (tbr_iter "cd")) | ((with_reducible apply lf_fdiv); (tbr_iter "cd"); (tbr_iter "cd")) | ((with_reducible apply lf_pow); (tbr_iter "cd"); (tbr_iter "cd"); (tbr_iter "cd"))))
  | ((with_reducible apply g_pMul); (first | (with_reducible apply lf_mulB) | ((with_reducible apply lf_mul2); (tbr_iter "ln")) | ((with_reducible apply lf_mulL); (tbr_iter "ln"); (tbr_iter "cd"); (tbr_iter "cd")) | ((with_reducible apply lf_mulI); (first | exact .inl (by decide +kernel) | exact .inr (by decide +kernel) | exact .inl (by tbr_iter "mb") | exact .inr (by tbr_iter "mb")))))
  | ((with_reducible apply g_pEq); (first | (with_reducible apply lf_eqI) | (with_reducible apply lf_eqB) | ((with_reducible apply lf_eqS); (tbr_iter "ok"); (tbr_iter "ok")) | ((with_reducible apply lf_eq'); (tbr_iter "ok"); (tbr_iter "ok"); (tbr_iter "eqn"))))
  | ((with_reducible apply g_pIx); (first | ((with_reducible apply lf_ixL); (tbr_iter "ix")) | ((with_reducible apply lf_ixG); (with_reducible assumption)) | ((with_reducible apply lf_ixV); (with_reducible assumption)) | ((with_reducible apply lf_ixLI); (tbr_iter "cd"); (tbr_iter "cd")) | ((with_reducible apply lf_ixM); (tbr_iter "cd"); (tbr_iter "cd"); (intro _ _)) | ((with_reducible apply lf_ixT); (tbr_iter "ix")) | ((with_reducible apply lf_ixP); (tbr_iter "lk"); (tbr_iter "ix")) | ((with_reducible apply lf_ixAbc); (tbr_iter "cd"); (tbr_iter "cd")) | ((with_reducible apply lf_ixX0); (tbr_iter "ln"); (tbr_iter "ln")) | ((with_reducible apply lf_ixC); (with_reducible assumption); (tbr_iter "cd"); (tbr_iter "cd"))))
  | ((with_reducible apply g_pLenX); (first | ((with_reducible apply lf_lenXo); (tbr_iter "iso"); (tbr_iter "s"); (with_unfolding_all decide)) | (with_reducible apply lf_lenXa)))
  | ((with_reducible apply lf_ins); (tbr_iter "lk"); (tbr_iter "ln"); (tbr_iter "cd"); (tbr_iter "cd"))
  | ((with_reducible apply g_pLen); (first | (with_reducible apply lf_lenL) | (with_reducible apply lf_lenT) | ((with_reducible apply lf_lenX); (tbr_iter "ln")) | ((with_reducible apply lf_lenS); (tbr_iter "sz")) | ((with_reducible apply lf_lenP); (tbr_iter "lk")) | ((with_reducible apply lf_lenQ); (with_reducible assumption))))
  | (with_reducible apply lf_abs)
  | ((with_reducible apply g_pIntT); (first | (with_reducible apply lf_intTi) | (with_reducible apply lf_intTb) | ((with_reducible apply lf_intS); (with_reducible assumption); (tbr_iter "ln"))))
  | ((with_reducible apply g_pStrC); (first | ((with_reducible apply lf_strI); (tbr_iter "cd"); (tbr_iter "cd")) | (with_reducible apply lf_strS)))
  | ((with_reducible apply lf_splitX); (tbr_iter "ln"))
  | ((with_reducible apply g_pSl); (first | ((with_reducible apply lf_slLto); (tbr_iter "cd")) | ((with_reducible apply lf_slLfr); (tbr_iter "cd")) | ((with_reducible apply lf_slLmid); (tbr_iter "cd"); (tbr_iter "cd")) | ((with_reducible apply lf_slTto); (tbr_iter "cd")) | ((with_reducible apply lf_slTfr); (tbr_iter "cd")) | ((with_reducible apply lf_slTmid); (tbr_iter "cd"); (tbr_iter "cd")) | ((with_reducible apply lf_slTneg); (tbr_iter "cd")) | ((with_reducible apply lf_slLneg); (tbr_iter "cd")) | (with_reducible apply lf_slL) | ((with_reducible apply lf_slXto); (tbr_iter "ln"); (tbr_iter "cd")) | ((with_reducible apply lf_slXfr); (tbr_iter "ln"); (tbr_iter "cd")) | ((with_reducible apply lf_slS); (tbr_iter "sz")) | (with_reducible apply lf_slR)))
  | ((with_reducible apply g_pSet); (first | ((with_reducible apply lf_set0); (tbr_iter "lk")) | ((with_reducible apply lf_set1); (tbr_iter "lk")) | ((with_reducible apply lf_set2); (tbr_iter "lk")) | ((with_reducible apply lf_set3); (tbr_iter "lk"))))
  | ((with_reducible apply g_pIsi); (first | ((with_reducible apply lf_isi); (tbr_iter "ty"); (tbr_iter "kit")) | ((with_reducible apply lf_isi2); (tbr_iter "ty"); (tbr_iter "kit"); (tbr_iter "kit"))))
  | (with_reducible apply lf_att)
  | ((with_reducible apply g_pIsB); (first | (with_reducible apply lf_isBB) | (with_reducible apply lf_isnotBB) | (with_reducible apply lf_isB0) | (with_reducible apply lf_isnotB0)))
  | ((with_reducible apply g_pIs); (first | (with_reducible apply lf_isN) | (with_reducible apply lf_is_bl) | (with_reducible apply lf_is_int) | (with_reducible apply lf_is_str) | (with_reducible apply lf_is_tup) | (with_reducible apply lf_is_lst) | (with_reducible apply lf_is_obj) | (with_reducible apply lf_is_dK) | (with_reducible apply lf_is_dT) | (with_reducible apply lf_is_ptr)))
  | ((with_reducible apply g_pIsNot); (first | (with_reducible apply lf_isnotN) | (with_reducible apply lf_isnot_bl) | (with_reducible apply lf_isnot_int) | (with_reducible apply lf_isnot_str) | (with_reducible apply lf_isnot_tup) | (with_reducible apply lf_isnot_lst) | (with_reducible apply lf_isnot_obj) | (with_reducible apply lf_isnot_dK) | (with_reducible apply lf_isnot_dT) | (with_reducible apply lf_isnot_ptr)))
  | (intro _ _; (with_reducible apply lf_mkA); (with_reducible assumption); (first | with_unfolding_all exact rfl | assumption); (first | rfl | omega); (with_reducible assumption); intro _ _ _ _))
local macro_rules | `(tactic| tbr_iter "di") => `(tactic| first
  | ((with_reducible apply di_range1); (tbr_iter "s"); (tbr_iter "mem"); (exact Sc.bt (by tbr_iter "s") _ (by tbr_iter "mem")); (tbr_iter "r"))
  | ((with_reducible apply di_range2); (tbr_iter "s"); (tbr_iter "mem"); (exact Sc.bt (by tbr_iter "s") _ (by tbr_iter "mem")); (tbr_iter "r"); (tbr_iter "r"))
  | ((with_reducible apply di_zip); (tbr_iter "s"); (tbr_iter "mem"); (exact Sc.bt (by tbr_iter "s") _ (by tbr_iter "mem")); (tbr_iter "r"); (tbr_iter "r"))
  | ((with_reducible apply di_enum2); (tbr_iter "s"); (tbr_iter "mem"); (exact Sc.bt (by tbr_iter "s") _ (by tbr_iter "mem")); (tbr_iter "r"))
  | (with_reducible apply di_it))
theorem g_sp__law_any {ds : List D} {M : Mm} {Q : D → Mm → Prop} {E : Str → List (Str × D) → Mm → Prop} (h : sp__law_any ds M Q E) : sp__law_any ds M Q E := h
theorem g_sp_Album_are_barred {ds : List D} {M : Mm} {Q : D → Mm → Prop} {E : Str → List (Str × D) → Mm → Prop} (h : sp_Album_are_barred ds M Q E) : sp_Album_are_barred ds M Q E := h
theorem g_sp__law_bag {ds : List D} {M : Mm} {Q : D → Mm → Prop} {E : Str → List (Str × D) → Mm → Prop} (h : sp__law_bag ds M Q E) : sp__law_bag ds M Q E := h
theorem g_sp__law_barred {ds : List D} {M : Mm} {Q : D → Mm → Prop} {E : Str → List (Str × D) → Mm → Prop} (h : sp__law_barred ds M Q E) : sp__law_barred ds M Q E := h
theorem g_sp__law_bars {ds : List D} {M : Mm} {Q : D → Mm → Prop} {E : Str → List (Str × D) → Mm → Prop} (h : sp__law_bars ds M Q E) : sp__law_bars ds M Q E := h
theorem g_sp_check_sayings {ds : List D} {M : Mm} {Q : D → Mm → Prop} {E : Str → List (Str × D) → Mm → Prop} (h : sp_check_sayings ds M Q E) : sp_check_sayings ds M Q E := h
theorem g_sp_Album_classes {ds : List D} {M : Mm} {Q : D → Mm → Prop} {E : Str → List (Str × D) → Mm → Prop} (h : sp_Album_classes ds M Q E) : sp_Album_classes ds M Q E := h
theorem g_sp_closed {ds : List D} {M : Mm} {Q : D → Mm → Prop} {E : Str → List (Str × D) → Mm → Prop} (h : sp_closed ds M Q E) : sp_closed ds M Q E := h
theorem g_sp_Album_class_of {ds : List D} {M : Mm} {Q : D → Mm → Prop} {E : Str → List (Str × D) → Mm → Prop} (h : sp_Album_class_of ds M Q E) : sp_Album_class_of ds M Q E := h
theorem g_sp__law_draw {ds : List D} {M : Mm} {Q : D → Mm → Prop} {E : Str → List (Str × D) → Mm → Prop} (h : sp__law_draw ds M Q E) : sp__law_draw ds M Q E := h
theorem g_sp_is_list {ds : List D} {M : Mm} {Q : D → Mm → Prop} {E : Str → List (Str × D) → Mm → Prop} (h : sp_is_list ds M Q E) : sp_is_list ds M Q E := h
theorem g_sp_is_name {ds : List D} {M : Mm} {Q : D → Mm → Prop} {E : Str → List (Str × D) → Mm → Prop} (h : sp_is_name ds M Q E) : sp_is_name ds M Q E := h
theorem g_sp_is_number {ds : List D} {M : Mm} {Q : D → Mm → Prop} {E : Str → List (Str × D) → Mm → Prop} (h : sp_is_number ds M Q E) : sp_is_number ds M Q E := h
theorem g_sp_is_picture {ds : List D} {M : Mm} {Q : D → Mm → Prop} {E : Str → List (Str × D) → Mm → Prop} (h : sp_is_picture ds M Q E) : sp_is_picture ds M Q E := h
theorem g_sp_is_saying {ds : List D} {M : Mm} {Q : D → Mm → Prop} {E : Str → List (Str × D) → Mm → Prop} (h : sp_is_saying ds M Q E) : sp_is_saying ds M Q E := h
theorem g_sp_Album_is_single {ds : List D} {M : Mm} {Q : D → Mm → Prop} {E : Str → List (Str × D) → Mm → Prop} (h : sp_Album_is_single ds M Q E) : sp_Album_is_single ds M Q E := h
theorem g_sp_item_in {ds : List D} {M : Mm} {Q : D → Mm → Prop} {E : Str → List (Str × D) → Mm → Prop} (h : sp_item_in ds M Q E) : sp_item_in ds M Q E := h
theorem g_sp_Album_leader {ds : List D} {M : Mm} {Q : D → Mm → Prop} {E : Str → List (Str × D) → Mm → Prop} (h : sp_Album_leader ds M Q E) : sp_Album_leader ds M Q E := h
theorem g_sp_Album_leaders {ds : List D} {M : Mm} {Q : D → Mm → Prop} {E : Str → List (Str × D) → Mm → Prop} (h : sp_Album_leaders ds M Q E) : sp_Album_leaders ds M Q E := h
theorem g_sp__law_letters {ds : List D} {M : Mm} {Q : D → Mm → Prop} {E : Str → List (Str × D) → Mm → Prop} (h : sp__law_letters ds M Q E) : sp__law_letters ds M Q E := h
theorem g_sp__law_read {ds : List D} {M : Mm} {Q : D → Mm → Prop} {E : Str → List (Str × D) → Mm → Prop} (h : sp__law_read ds M Q E) : sp__law_read ds M Q E := h
theorem g_sp_Album___init__ {ds : List D} {M : Mm} {Q : D → Mm → Prop} {E : Str → List (Str × D) → Mm → Prop} (h : sp_Album___init__ ds M Q E) : sp_Album___init__ ds M Q E := h
theorem g_sp__law_made {ds : List D} {M : Mm} {Q : D → Mm → Prop} {E : Str → List (Str × D) → Mm → Prop} (h : sp__law_made ds M Q E) : sp__law_made ds M Q E := h
theorem g_sp__law_names {ds : List D} {M : Mm} {Q : D → Mm → Prop} {E : Str → List (Str × D) → Mm → Prop} (h : sp__law_names ds M Q E) : sp__law_names ds M Q E := h
theorem g_sp_Album_need_picture {ds : List D} {M : Mm} {Q : D → Mm → Prop} {E : Str → List (Str × D) → Mm → Prop} (h : sp_Album_need_picture ds M Q E) : sp_Album_need_picture ds M Q E := h
theorem g_sp_Album_name_of {ds : List D} {M : Mm} {Q : D → Mm → Prop} {E : Str → List (Str × D) → Mm → Prop} (h : sp_Album_name_of ds M Q E) : sp_Album_name_of ds M Q E := h
theorem g_sp_number_in {ds : List D} {M : Mm} {Q : D → Mm → Prop} {E : Str → List (Str × D) → Mm → Prop} (h : sp_number_in ds M Q E) : sp_number_in ds M Q E := h
theorem g_sp__law_odd {ds : List D} {M : Mm} {Q : D → Mm → Prop} {E : Str → List (Str × D) → Mm → Prop} (h : sp__law_odd ds M Q E) : sp__law_odd ds M Q E := h
theorem g_sp__law_part {ds : List D} {M : Mm} {Q : D → Mm → Prop} {E : Str → List (Str × D) → Mm → Prop} (h : sp__law_part ds M Q E) : sp__law_part ds M Q E := h
theorem g_sp__law_parts {ds : List D} {M : Mm} {Q : D → Mm → Prop} {E : Str → List (Str × D) → Mm → Prop} (h : sp__law_parts ds M Q E) : sp__law_parts ds M Q E := h
theorem g_sp__law_person {ds : List D} {M : Mm} {Q : D → Mm → Prop} {E : Str → List (Str × D) → Mm → Prop} (h : sp__law_person ds M Q E) : sp__law_person ds M Q E := h
theorem g_sp__law_pick {ds : List D} {M : Mm} {Q : D → Mm → Prop} {E : Str → List (Str × D) → Mm → Prop} (h : sp__law_pick ds M Q E) : sp__law_pick ds M Q E := h
theorem g_sp_pictures_of {ds : List D} {M : Mm} {Q : D → Mm → Prop} {E : Str → List (Str × D) → Mm → Prop} (h : sp_pictures_of ds M Q E) : sp_pictures_of ds M Q E := h
theorem g_sp_read_saying {ds : List D} {M : Mm} {Q : D → Mm → Prop} {E : Str → List (Str × D) → Mm → Prop} (h : sp_read_saying ds M Q E) : sp_read_saying ds M Q E := h
theorem g_sp__law_same {ds : List D} {M : Mm} {Q : D → Mm → Prop} {E : Str → List (Str × D) → Mm → Prop} (h : sp__law_same 8 ds M Q E) : sp__law_same 8 ds M Q E := h
theorem g_sp__law_single {ds : List D} {M : Mm} {Q : D → Mm → Prop} {E : Str → List (Str × D) → Mm → Prop} (h : sp__law_single ds M Q E) : sp__law_single ds M Q E := h
theorem g_sp_Album_is_sound {ds : List D} {M : Mm} {Q : D → Mm → Prop} {E : Str → List (Str × D) → Mm → Prop} (h : sp_Album_is_sound ds M Q E) : sp_Album_is_sound ds M Q E := h
theorem g_sp__law_sound {ds : List D} {M : Mm} {Q : D → Mm → Prop} {E : Str → List (Str × D) → Mm → Prop} (h : sp__law_sound ds M Q E) : sp__law_sound ds M Q E := h
theorem g_sp__law_some {ds : List D} {M : Mm} {Q : D → Mm → Prop} {E : Str → List (Str × D) → Mm → Prop} (h : sp__law_some ds M Q E) : sp__law_some ds M Q E := h
theorem g_sp_saying_text {ds : List D} {M : Mm} {Q : D → Mm → Prop} {E : Str → List (Str × D) → Mm → Prop} (h : sp_saying_text ds M Q E) : sp_saying_text ds M Q E := h
theorem g_sp_is_tie {ds : List D} {M : Mm} {Q : D → Mm → Prop} {E : Str → List (Str × D) → Mm → Prop} (h : sp_is_tie ds M Q E) : sp_is_tie ds M Q E := h
theorem g_sp_Album_are_tied {ds : List D} {M : Mm} {Q : D → Mm → Prop} {E : Str → List (Str × D) → Mm → Prop} (h : sp_Album_are_tied ds M Q E) : sp_Album_are_tied ds M Q E := h
theorem g_sp__law_true {ds : List D} {M : Mm} {Q : D → Mm → Prop} {E : Str → List (Str × D) → Mm → Prop} (h : sp__law_true ds M Q E) : sp__law_true ds M Q E := h
theorem g_sp_Album___len__ {ds : List D} {M : Mm} {Q : D → Mm → Prop} {E : Str → List (Str × D) → Mm → Prop} (h : sp_Album___len__ ds M Q E) : sp_Album___len__ ds M Q E := h
theorem g_sp_Album_many {ds : List D} {M : Mm} {Q : D → Mm → Prop} {E : Str → List (Str × D) → Mm → Prop} (h : sp_Album_many ds M Q E) : sp_Album_many ds M Q E := h
theorem g_sp_Album_sayings {ds : List D} {M : Mm} {Q : D → Mm → Prop} {E : Str → List (Str × D) → Mm → Prop} (h : sp_Album_sayings ds M Q E) : sp_Album_sayings ds M Q E := h

local macro_rules | `(tactic| tbr_iter "sp") => `(tactic| first
  | ((with_reducible apply g_sp_pictures_of); (first | ((with_reducible apply lf_picsT); (decide +kernel); (decide +kernel)) | ((with_reducible apply lf_picsF); (decide +kernel); (decide +kernel))))
  | ((with_reducible apply g_sp_is_tie); (first | ((with_reducible apply lf_tieT); (decide +kernel); (decide +kernel)) | ((with_reducible apply lf_tieF); (decide +kernel); (decide +kernel))))
  | ((with_reducible apply g_sp__law_same); (first | ((with_reducible apply lf_same); (with_unfolding_all first | exact rfl | assumption); (tbr_iter "sm")) | ((with_reducible apply lf_same'); (with_unfolding_all first | exact rfl | assumption); (tbr_iter "sm"))))
  | (with_reducible apply lf_letters)
  | ((with_reducible apply g_sp__law_bag); (first | ((with_reducible apply lf_bagT); (with_reducible assumption); (with_reducible assumption); (intro _ _ _ _ _ _)) | ((with_reducible apply lf_bag); (with_reducible assumption); (intro _ _ _ _))))
  | ((with_reducible apply g_sp__law_names); (first | ((with_reducible apply lf_names1); (with_reducible assumption); (with_reducible assumption); (intro _ _ _ _ _ _)) | ((with_reducible apply lf_names); (with_reducible assumption); (with_reducible assumption); (tbr_iter "cd"); (tbr_iter "cd"); (intro _ _ _ _ _))))
  | ((with_reducible apply lf_draw); (with_reducible assumption); (with_reducible assumption); (tbr_iter "cd"); (tbr_iter "cd"); (intro _ _ _ _ _ _))
  | ((with_reducible apply g_sp__law_pick); (first | ((with_reducible apply lf_pickS); (with_reducible assumption); (with_reducible assumption); (decide +kernel); (decide +kernel); (intro _ _ _ _ _)) | ((with_reducible apply lf_pickStr); (with_reducible assumption); (with_reducible assumption); (with_unfolding_all exact Nat.le_of_ble_eq_true rfl); (with_unfolding_all exact Nat.le_of_ble_eq_true rfl); (tbr_iter "alls"); (intro _ _ _ _ _ _ _)) | ((with_reducible apply lf_pickInt); (with_reducible assumption); (with_reducible assumption); (with_unfolding_all exact Nat.le_of_ble_eq_true rfl); (with_unfolding_all exact Nat.le_of_ble_eq_true rfl); (tbr_iter "alli"); (intro _ _ _ _ _)) | ((with_reducible apply lf_pickSm); (with_reducible assumption); (with_reducible assumption); (with_unfolding_all exact Nat.le_of_ble_eq_true rfl); (with_unfolding_all exact Nat.le_of_ble_eq_true rfl); (tbr_iter "sms"); (intro _ _ _ _ _ _)) | ((with_reducible apply lf_pickL); (with_reducible assumption); (with_reducible assumption); (with_unfolding_all exact Nat.le_of_ble_eq_true rfl); (with_unfolding_all exact Nat.le_of_ble_eq_true rfl); (intro _ _ _ _ _)) | ((with_reducible apply lf_pickT); (with_reducible assumption); (with_reducible assumption); (with_unfolding_all exact Nat.le_of_ble_eq_true rfl); (with_unfolding_all exact Nat.le_of_ble_eq_true rfl); (intro _ _ _ _ _))))
  | ((with_reducible apply g_sp_is_number); (first | ((with_reducible apply lf_isnumT); (tbr_iter "cd"); (tbr_iter "cd")) | ((with_reducible apply lf_isnum); (tbr_iter "sm"))))
  | ((with_reducible apply g_sp_is_name); (first | ((with_reducible apply lf_isnameT); (with_reducible assumption)) | ((with_reducible apply lf_isname); (tbr_iter "sm"))))
  | ((with_reducible apply lf_ispic); (tbr_iter "sm"))
  | ((with_reducible apply g_sp_is_saying); (first | ((with_reducible apply lf_issayT); (with_reducible assumption); (tbr_iter "sm")) | ((with_reducible apply lf_issay); (tbr_iter "sm"))))
  | ((with_reducible apply lf_some); (with_reducible assumption); (with_reducible assumption); (intro _ _ _ _ _))
  | ((with_reducible apply g_sp_is_list); (first | (with_reducible apply lf_islL) | (with_reducible apply lf_islT) | ((with_reducible apply lf_islQ); (with_reducible assumption))))
  | ((with_reducible apply lf_chk); (with_reducible assumption); (with_reducible assumption))
  | ((with_reducible apply lf_closed); (with_reducible assumption))
  | ((with_reducible apply g_sp_Album_need_picture); (first | ((with_reducible apply lf_needp); (with_reducible assumption); (tbr_iter "cd"); (tbr_iter "cd")) | ((with_reducible apply lf_needpF); (with_reducible assumption); (tbr_iter "sm"); (with_reducible assumption))))
  | ((with_reducible apply g_sp_Album_class_of); (first | ((with_reducible apply lf_clsof); (with_reducible assumption); (tbr_iter "cd"); (tbr_iter "cd")) | ((with_reducible apply lf_clsofF); (with_reducible assumption); (tbr_iter "sm"); (with_reducible assumption))))
  | ((with_reducible apply g_sp_Album_leader); (first | ((with_reducible apply lf_leaderF); (with_reducible assumption); (tbr_iter "sm"); (with_reducible assumption)) | ((with_reducible apply lf_leader); (with_reducible assumption); (tbr_iter "cd"); (tbr_iter "cd"))))
  | ((with_reducible apply lf_leaders); (with_reducible assumption))
  | ((with_reducible apply lf_person); (with_reducible assumption); (with_reducible assumption); (tbr_iter "cd"); (tbr_iter "cd"); (with_reducible assumption); (with_reducible assumption); (intro _ _ _ _ _))
  | ((with_reducible apply lf_any); (with_reducible assumption); (with_reducible assumption); (tbr_iter "cd"); (tbr_iter "cd"); (tbr_iter "cd"); (tbr_iter "cd"); (intro _ _ _ _ _ _ _ _ _))
  | ((with_reducible apply lf_true); (with_reducible assumption); (with_reducible assumption); (tbr_iter "cd"); (tbr_iter "cd"); (tbr_iter "cd"); (tbr_iter "cd"); (intro _ _ _ _ _ _ _ _ _ _))
  | ((with_reducible apply g_sp__law_made); (first | ((with_reducible apply lf_mkdS); (with_reducible assumption); (with_reducible assumption); (intro _ _ hm_ hs_; subst hm_; subst hs_)) | ((with_reducible apply lf_mkd); (with_reducible assumption); (intro _ _ _ _))))
  | ((with_reducible apply lf_sndL); (with_reducible assumption); (intro _ _))
  | ((with_reducible apply lf_sndA); (with_reducible assumption); (intro _ _))
  | ((with_reducible apply g_sp__law_parts); (first | ((with_reducible apply lf_partsA); (with_reducible assumption)) | ((with_reducible apply lf_parts); (with_reducible assumption); (intro _ _ _))))
  | ((with_reducible apply lf_part); (with_reducible assumption); (tbr_iter "cd"); (tbr_iter "cd"))
  | ((with_reducible apply lf_bars); (with_reducible assumption); (tbr_iter "cd"); (tbr_iter "cd"); (tbr_iter "cd"); (tbr_iter "cd"))
  | ((with_reducible apply lf_barred); (with_reducible assumption); (tbr_iter "cd"); (tbr_iter "cd"); (tbr_iter "cd"); (tbr_iter "cd"))
  | ((with_reducible apply g_sp__law_single); (first | ((with_reducible apply lf_singleC); (with_reducible assumption); (tbr_iter "cd"); (tbr_iter "cd")) | ((with_reducible apply lf_single); (with_reducible assumption))))
  | ((with_reducible apply lf_classes); (with_reducible assumption))
  | ((with_reducible apply g_sp_Album_name_of); (first | ((with_reducible apply lf_nmof); (with_reducible assumption); (tbr_iter "cd"); (tbr_iter "cd")) | ((with_reducible apply lf_nmofF); (with_reducible assumption); (tbr_iter "sm"); (with_reducible assumption))))
  | ((with_reducible apply g_sp_Album_is_single); (first | ((with_reducible apply lf_issg); (with_reducible assumption); (tbr_iter "cd"); (tbr_iter "cd")) | ((with_reducible apply lf_issgF); (with_reducible assumption); (tbr_iter "sm"); (with_reducible assumption))))
  | ((with_reducible apply g_sp_Album_are_tied); (first | ((with_reducible apply lf_tied); (with_reducible assumption); (tbr_iter "cd"); (tbr_iter "cd"); (tbr_iter "cd"); (tbr_iter "cd")) | ((with_reducible apply lf_tiedFb); (with_reducible assumption); (tbr_iter "cd"); (tbr_iter "cd"); (tbr_iter "sm"); (with_reducible assumption)) | ((with_reducible apply lf_tiedFa); (with_reducible assumption); (tbr_iter "sm"); (tbr_iter "sm"); (with_reducible assumption))))
  | ((with_reducible apply g_sp_Album_are_barred); (first | ((with_reducible apply lf_arbar); (with_reducible assumption); (tbr_iter "cd"); (tbr_iter "cd"); (tbr_iter "cd"); (tbr_iter "cd")) | ((with_reducible apply lf_arbarFb); (with_reducible assumption); (tbr_iter "cd"); (tbr_iter "cd"); (tbr_iter "sm"); (with_reducible assumption)) | ((with_reducible apply lf_arbarFa); (with_reducible assumption); (tbr_iter "sm"); (tbr_iter "sm"); (with_reducible assumption))))
  | (with_reducible apply lf_odd)
  | ((with_reducible apply lf_stext); (with_reducible assumption))
  | ((with_reducible apply lf_numin); (tbr_iter "stok"); (tbr_iter "ln"))
  | ((with_reducible apply lf_itemin); (tbr_iter "stok"); (tbr_iter "ln"))
  | ((with_reducible apply lf_readS); (with_reducible assumption))
  | ((with_reducible apply lf_lread); (tbr_iter "stok"); (tbr_iter "ln"))
  | ((with_reducible apply lf_alen); (with_reducible assumption))
  | (with_reducible apply lf_amany)
  | (with_reducible apply lf_asays))
local macro_rules | `(tactic| tbr_iter "dg") => `(tactic| first
  | ((with_reducible apply dg_name); (tbr_iter "s"); (tbr_iter "put"); (tbr_iter "mem"))
  | ((with_reducible apply dg_tupA); (tbr_iter "s"); (with_unfolding_all exact rfl); (tbr_iter "r"); (tbr_iter "r"))
  | ((with_reducible apply dg_starA (i := 1)); (tbr_iter "s"); (with_unfolding_all exact rfl); (tbr_iter "r"); (tbr_iter "r"); (tbr_iter "ln"); (tbr_iter "ln"))
  | ((with_reducible apply dg_starA (i := 2)); (tbr_iter "s"); (with_unfolding_all exact rfl); (tbr_iter "r"); (tbr_iter "r"); (tbr_iter "ln"); (tbr_iter "ln")))
local macro_rules | `(tactic| tbr_iter "dgs") => `(tactic| first
  | (with_reducible apply dgs_nil)
  | ((with_reducible apply dgs_cons); (tbr_iter "r"))
  | ((with_reducible apply dgs_consS); (tbr_iter "r")))
local macro_rules | `(tactic| tbr_iter "dgv") => `(tactic| first
  | ((with_reducible apply dgv_name); (tbr_iter "s"); (tbr_iter "put"); (tbr_iter "mem"); (with_unfolding_all decide)))
local macro_rules | `(tactic| tbr_iter "d0") => `(tactic| first
  | (with_reducible apply hG; tbr_iter "dg")
  | (with_reducible apply hGs; tbr_iter "dgs")
  | (with_reducible apply hGV; tbr_iter "dgv")
  | (with_reducible apply hE; tbr_iter "de")
  | (with_reducible apply hI; tbr_iter "di")
  | (with_reducible apply hT; tbr_iter "dt")
  | (with_reducible apply hS; tbr_iter "ds")
  | tbr_iter "da"
  | tbr_iter "dt"
  | tbr_iter "fin"
  | (with_reducible apply gS; tbr_iter "sp")
  | tbr_iter "lf")
local macro_rules | `(tactic| tbr_iter "e0") => `(tactic| first
  | (with_reducible apply hG; tbr_iter "dg")
  | (with_reducible apply hGs; tbr_iter "dgs")
  | (with_reducible apply hGV; tbr_iter "dgv")
  | (with_reducible apply hE; tbr_iter "de")
  | (with_reducible apply hI; tbr_iter "di")
  | (with_reducible apply hT; tbr_iter "dt")
  | tbr_iter "da"
  | tbr_iter "dt"
  | tbr_iter "fin"
  | (with_reducible apply gS; tbr_iter "sp")
  | tbr_iter "lf")
local macro_rules | `(tactic| tbr_iter "e") => `(tactic| (with_reducible apply nP; tbr_iter "e0"))
local macro_rules | `(tactic| tbr_iter "s1") => `(tactic| (with_reducible apply hS; tbr_iter "ds"; all_goals repeat' tbr_iter "e"))
local macro_rules | `(tactic| tbr_iter "d") => `(tactic| (with_reducible apply nP; tbr_iter "d0"))
local macro_rules | `(tactic| tbr_iter "dd") => `(tactic| repeat' tbr_iter "d")
section
variable {P : Program} {W : World} {K : PySem.W.Frag} {mg : Str → Option Value} {base : Heap}
theorem ok_is_name (T : TopFn K mg "is_name" (top 14)) (hB : ∀ x ∈ allB, mg x = none) (GLETTERS : Gc mg "LETTERS" (.str abc)) : FnD P W K mg base 1 "is_name" ["value"] [] (sp_is_name) := by
  obtain ⟨gm, fd, F⟩ := T
  refine fnD_of ["value"] ["sign"] ["value"] ⟨["value"], ["value"], [], ["isinstance", "str", "len", "all"], ["isinstance", "str", "len", "all"]⟩ gm F (by decide +kernel) (bsub hB (by decide +kernel)) ?kb ?len ?body
  case kb => exact kw_nil
  case len => rintro ds M Q E ⟨v, hv, rfl, q⟩; rfl
  case body =>
    rintro X w ds M Q E rfl rfl rfl rfl rfl hN hsc Sx ⟨v, hv, rfl, q⟩ he
    show DS X w (_ :: _) ([("value", 0, (some v))] : Ga) _ _
    rcases D.smc hv with rfl | ⟨b, rfl⟩ | ⟨i, rfl⟩ | ⟨l, rfl, hl⟩ | ⟨ds, rfl⟩ | ⟨ds, rfl⟩
    all_goals tbr_iter "dd"
    all_goals first | exact q | skip
    · refine de_lcN Sx hN hsc 1 [] ⟨["sign"], ["sign"], [], ["LETTERS"], []⟩ (by decide +kernel) (by tbr_iter "mem") (by tbr_iter "mems") (by tbr_iter "pk") (by tbr_iter "nd") (fun _ => rfl) ?_
      refine lcN_map l (fun c => .str (tx [c])) (fun c => .bl (decide (c ∈ abc.cps.toList))) (by rw [sizeLine_eq]; omega) ?hi ?he ?q
      case hi =>
        tbr_iter "dd"
        exact ⟨rfl, rfl⟩
      case he =>
        intro c hc s0 H0 C cl fp Sb
        tbr_iter "dd"
        exact ⟨rfl, rfl⟩
      case q =>
        tbr_iter "dd"
        rename_i h1 h
        exact qb q (by simp only [isName, tx_l]; rw [decide_eq_true (by omega), decide_eq_true (by omega)]; rfl)
    · rename_i h
      exact qb q (by simp only [isName, tx_l]; rw [decide_eq_false (p := l.length ≤ 8) (by omega)]; simp)
    · rename_i h
      exact qb q (by simp only [isName, tx_l]; rw [decide_eq_false (p := 1 ≤ l.length) (by omega)]; simp)
theorem ok_is_number (T : TopFn K mg "is_number" (top 15)) (hB : ∀ x ∈ allB, mg x = none)  : FnD P W K mg base 1 "is_number" ["value", "low", "high"] [] (sp_is_number) := by
  obtain ⟨gm, fd, F⟩ := T
  refine fnD_of ["value", "low", "high"] [] ["value", "low", "high"] ⟨["value", "low", "high"], ["value", "low", "high"], [], ["isinstance", "int", "bool"], ["isinstance", "int", "bool"]⟩ gm F (by decide +kernel) (bsub hB (by decide +kernel)) ?kb ?len ?body
  case kb => exact kw_nil
  case len => rintro ds M Q E ⟨v, lo, hi, hv, rfl, q⟩; rfl
  case body =>
    rintro X w ds M Q E rfl rfl rfl rfl rfl hN hsc Sx ⟨v, lo, hi, hv, rfl, q⟩ he
    show DS X w (_ :: _) ([("value", 0, (some v)), ("low", 1, (some (.int lo))), ("high", 2, (some (.int hi)))] : Ga) _ _
    rcases D.smc hv with rfl | ⟨b, rfl⟩ | ⟨i, rfl⟩ | ⟨l, rfl, hl⟩ | ⟨ds, rfl⟩ | ⟨ds, rfl⟩
    all_goals tbr_iter "dd"
    all_goals first | exact q | skip
    · rename_i h; exact qb q (by simp [isNum, h])
    · rename_i h; exact qb q (by simp [isNum, h])
theorem ok_is_list (T : TopFn K mg "is_list" (top 16)) (hB : ∀ x ∈ allB, mg x = none)  : FnD P W K mg base 1 "is_list" ["value"] [] (sp_is_list) := by
  obtain ⟨gm, fd, F⟩ := T
  refine fnD_of ["value"] [] ["value"] ⟨["value"], ["value"], [], ["isinstance", "list", "tuple"], ["isinstance", "list", "tuple"]⟩ gm F (by decide +kernel) (bsub hB (by decide +kernel)) ?kb ?len ?body
  case kb => exact kw_nil
  case len => rintro ds M Q E ⟨v, hv, rfl, q⟩; rfl
  case body =>
    rintro X w ds M Q E rfl rfl rfl rfl rfl hN hsc Sx ⟨v, hv, rfl, q⟩ he
    show DS X w (_ :: _) ([("value", 0, (some v))] : Ga) _ _
    rcases hv with hv | hv
    · cases v <;> first | cases hv | skip
      all_goals
        tbr_iter "dd"
        exact q
    · rcases D.smc hv with rfl | ⟨b, rfl⟩ | ⟨i, rfl⟩ | ⟨l, rfl, hl⟩ | ⟨ds, rfl⟩ | ⟨ds, rfl⟩
      all_goals
        tbr_iter "dd"
        exact q
theorem ok_pictures_of (T : TopFn K mg "pictures_of" (top 21)) (hB : ∀ x ∈ allB, mg x = none)  : FnD P W K mg base 1 "pictures_of" ["saying"] [] (sp_pictures_of) := by
  obtain ⟨gm, fd, F⟩ := T
  refine fnD_of ["saying"] [] ["saying"] ⟨["saying"], ["saying"], [], [], []⟩ gm F (by decide +kernel) (bsub hB (by decide +kernel)) ?kb ?len ?body
  case kb => exact kw_nil
  case len => rintro ds M Q E ⟨wd, xs, hw, rfl, q⟩; rfl
  case body =>
    rintro X w ds M Q E rfl rfl rfl rfl rfl hN hsc Sx ⟨wd, xs, hw, rfl, q⟩ he
    show DS X w (_ :: _) ([("saying", 0, (some (.tup (.str wd :: xs))))] : Ga) _ _
    tbr_iter "dd"
    · rename_i hT
      rw [isSA_iff, decide_eq_true hT, if_pos rfl] at q; exact q
    · rename_i hF
      rw [isSA_iff, decide_eq_false hF, if_neg Bool.false_ne_true] at q; exact q
theorem ok_is_tie (T : TopFn K mg "is_tie" (top 22)) (hB : ∀ x ∈ allB, mg x = none)  : FnD P W K mg base 1 "is_tie" ["saying"] [] (sp_is_tie) := by
  obtain ⟨gm, fd, F⟩ := T
  refine fnD_of ["saying"] [] ["saying"] ⟨["saying"], ["saying"], [], [], []⟩ gm F (by decide +kernel) (bsub hB (by decide +kernel)) ?kb ?len ?body
  case kb => exact kw_nil
  case len => rintro ds M Q E ⟨wd, xs, hw, rfl, q⟩; rfl
  case body =>
    rintro X w ds M Q E rfl rfl rfl rfl rfl hN hsc Sx ⟨wd, xs, hw, rfl, q⟩ he
    show DS X w (_ :: _) ([("saying", 0, (some (.tup (.str wd :: xs))))] : Ga) _ _
    tbr_iter "dd"
    rw [isSI_iff] at q
    exact q
theorem ok_Album_said_bars (T : TopM K mg "Album" "said_bars" "Album.said_bars" (mst 27 3)) (hB : ∀ x ∈ allB, mg x = none) (KAlbum : ClsD K mg "Album" ["own_many", "own_sayings", "own_ties", "own_leaders", "own_names", "own_single", "own_bars"]) : MthD P W K mg base 1 "Album" "said_bars" ["self"] [] (sp_Album_said_bars) := by
  have chk : defB ["self", "found", "saying", "pair"] [] ["self"] (mst 27 3) ⟨["self", "found", "saying", "pair"], ["self", "found", "saying", "pair"], [], [], []⟩ = true := by decide +kernel
  obtain ⟨cls, f, fd, hm, F⟩ := T
  refine ⟨cls, f, fd, hm, fnOk_of ["self", "found", "saying", "pair"] [] ["self"] ⟨["self", "found", "saying", "pair"], ["self", "found", "saying", "pair"], [], [], []⟩ F chk (bsub hB (by decide +kernel)) ?len ?body, (defB_of chk).binds F, ?kb⟩
  case kb => exact kw_nil
  case len => rintro ds M Q E ⟨p, a, fs, hm, h1, h2, h3, ok, hl, rfl, q⟩; rfl
  case body =>
    rintro X w ds M Q E rfl rfl rfl rfl rfl hN hsc Sx ⟨p, a, fs, hm, h1, h2, h3, ok, hl, rfl, q⟩ he
    show DS X w (_ :: _) ([("self", 0, (some (.ptr p))), ("found", 1, none), ("saying", 2, none), ("pair", 3, none)] : Ga) _ _
    have hm24 := ok.mm
    tbr_iter "dd"
    rename_i q1 hq1
    have ne : p ≠ q1 := fun e => by rw [← e, hm] at hq1; cases hq1
    refine ds_for Sx (fun _ => rfl) ?_
    tbr_iter "dd"
    refine ⟨fun j Γ' M' => (∃ o_2 o_3 : Option D, Γ' = ([("self", 0, (some (.ptr p))), ("found", 1, (some (.ptr q1))), ("saying", 2, o_2), ("pair", 3, o_3)] : Ga)) ∧ M' = M.put q1 (.l ((barsOf (lead a) (a.says.take j)).map pD)), ⟨⟨_, _, rfl⟩, rfl⟩, ?_, ?_⟩
    · rintro j d Γ1 M1 hd ⟨⟨o_2, o_3, rfl⟩, rfl⟩
      rw [List.getElem?_map] at hd
      obtain ⟨s, hs, rfl⟩ := Option.map_eq_some_iff.mp hd
      have hso := ok.ok s (List.mem_of_getElem? hs)
      have bl := barsOf_len' (ld := lead a) ok j
      simp only [barsOf_snoc hs, List.map_append]
      cases s with
      | nob i =>
        simp only [Say.d, barS]
        tbr_iter "dd"
        exact ⟨⟨_, _, rfl⟩, by simp⟩
      | isn i l =>
        simp only [Say.d, barS]
        tbr_iter "dd"
        exact ⟨⟨_, _, rfl⟩, by simp⟩
      | sam i i' =>
        simp only [Say.d, barS]
        tbr_iter "dd"
        exact ⟨⟨_, _, rfl⟩, by simp⟩
      | apa i i' =>
        obtain ⟨i0, i1, j0, j1, ne2⟩ := hso
        have g1 := lead_get hl i0 i1
        have g2 := lead_get hl j0 j1
        simp only [Say.d, barS]
        tbr_iter "dd"
        exact ⟨⟨_, _, rfl⟩, Mm.put_put⟩
    · rintro Γ1 M1 ⟨⟨o_2, o_3, rfl⟩, rfl⟩
      rw [List.length_map, List.take_length]
      refine ds_ret (de_freeze ?_)
      tbr_iter "dd"
      rw [Mm.put_del hq1]
      exact q
theorem ok_Album_many (T : TopP K mg "Album" "many" "Album.many" (mst 27 4)) (hB : ∀ x ∈ allB, mg x = none) (KAlbum : ClsD K mg "Album" ["own_many", "own_sayings", "own_ties", "own_leaders", "own_names", "own_single", "own_bars"]) : PrpD P W K mg base 1 "Album" "many" (sp_Album_many) := by
  have chk : defB ["self"] [] ["self"] (mst 27 4) ⟨["self"], ["self"], [], [], []⟩ = true := by decide +kernel
  obtain ⟨cls, p0, f, fd, hm, F⟩ := T
  refine ⟨cls, p0, f, fd, hm, fnOk_of ["self"] [] ["self"] ⟨["self"], ["self"], [], [], []⟩ F chk (bsub hB (by decide +kernel)) ?len ?body, (defB_of chk).binds F⟩
  case len => rintro ds M Q E ⟨a, rfl, q⟩; rfl
  case body =>
    rintro X w ds M Q E rfl rfl rfl rfl rfl hN hsc Sx ⟨a, rfl, q⟩ he
    show DS X w (_ :: _) ([("self", 0, (some (.obj "Album" (albF a))))] : Ga) _ _
    tbr_iter "dd"
    exact q
theorem ok_Album_sayings (T : TopM K mg "Album" "sayings" "Album.sayings" (mst 27 6)) (hB : ∀ x ∈ allB, mg x = none) (KAlbum : ClsD K mg "Album" ["own_many", "own_sayings", "own_ties", "own_leaders", "own_names", "own_single", "own_bars"]) : MthD P W K mg base 1 "Album" "sayings" ["self"] [] (sp_Album_sayings) := by
  have chk : defB ["self"] [] ["self"] (mst 27 6) ⟨["self"], ["self"], [], ["list"], ["list"]⟩ = true := by decide +kernel
  obtain ⟨cls, f, fd, hm, F⟩ := T
  refine ⟨cls, f, fd, hm, fnOk_of ["self"] [] ["self"] ⟨["self"], ["self"], [], ["list"], ["list"]⟩ F chk (bsub hB (by decide +kernel)) ?len ?body, (defB_of chk).binds F, ?kb⟩
  case kb => exact kw_nil
  case len => rintro ds M Q E ⟨a, rfl, q⟩; rfl
  case body =>
    rintro X w ds M Q E rfl rfl rfl rfl rfl hN hsc Sx ⟨a, rfl, q⟩ he
    show DS X w (_ :: _) ([("self", 0, (some (.obj "Album" (albF a))))] : Ga) _ _
    tbr_iter "dd"
    exact q
theorem ok_Album___len__ (T : TopM K mg "Album" "__len__" "Album.__len__" (mst 27 22)) (hB : ∀ x ∈ allB, mg x = none) (KAlbum : ClsD K mg "Album" ["own_many", "own_sayings", "own_ties", "own_leaders", "own_names", "own_single", "own_bars"]) : MthD P W K mg base 1 "Album" "__len__" ["self"] [] (sp_Album___len__) := by
  have chk : defB ["self"] [] ["self"] (mst 27 22) ⟨["self"], ["self"], [], ["len"], ["len"]⟩ = true := by decide +kernel
  obtain ⟨cls, f, fd, hm, F⟩ := T
  refine ⟨cls, f, fd, hm, fnOk_of ["self"] [] ["self"] ⟨["self"], ["self"], [], ["len"], ["len"]⟩ F chk (bsub hB (by decide +kernel)) ?len ?body, (defB_of chk).binds F, ?kb⟩
  case kb => exact kw_nil
  case len => rintro ds M Q E ⟨a, rfl, q⟩; rfl
  case body =>
    rintro X w ds M Q E rfl rfl rfl rfl rfl hN hsc Sx ⟨a, rfl, q⟩ he
    show DS X w (_ :: _) ([("self", 0, (some (.obj "Album" (albF a))))] : Ga) _ _
    tbr_iter "dd"
    first
      | exact q
      | exact qd q (by rw [List.length_map])
theorem ok__law_bag (T : TopFn K mg "_law_bag" (top 30)) (hB : ∀ x ∈ allB, mg x = none)  : FnD P W K mg base 1 "_law_bag" ["_law_script"] [] (sp__law_bag) := by
  obtain ⟨gm, fd, F⟩ := T
  refine fnD_of ["_law_script", "_law_cells"] [] ["_law_script"] ⟨["_law_script", "_law_cells"], ["_law_script", "_law_cells"], [], ["list", "len"], ["list", "len"]⟩ gm F (by decide +kernel) (bsub hB (by decide +kernel)) ?kb ?len ?body
  case kb => exact kw_nil
  case len => rintro ds M Q E ⟨ns, rfl, hn, q⟩; rfl
  case body =>
    rintro X w ds M Q E rfl rfl rfl rfl rfl hN hsc Sx ⟨ns, rfl, hn, q⟩ he
    show DS X w (_ :: _) ([("_law_script", 0, (some (.scr ns))), ("_law_cells", 1, none)] : Ga) _ _
    iterate 13 tbr_iter "d"
    refine de_lstM ?_
    tbr_iter "dd"
    intro p hp
    have e1 : cutD (ns.map .int) none (some (63 : Int)) = ns.map .int := by
      rw [show (63 : Int) = ((63 : Nat) : Int) from rfl, cutD_to, List.take_of_length_le (by simpa using hn)]
    rw [e1]
    tbr_iter "fin"
    exact q p _ hp ⟨⟨ns, 0, 0, 10025 + 13 * (ns.length : Int), Int.le_refl _, by omega, Int.le_refl _, by omega, by omega, hn⟩, by rw [Mm.put_same]; simp [Bag.cell]⟩ Keep.put
theorem ok__law_draw (T : TopFn K mg "_law_draw" (top 31)) (hB : ∀ x ∈ allB, mg x = none)  : FnD P W K mg base 1 "_law_draw" ["_law_bag_here", "_law_my_many"] [] (sp__law_draw) := by
  obtain ⟨gm, fd, F⟩ := T
  refine fnD_of ["_law_bag_here", "_law_my_many", "_law_cell", "_law_got_here"] [] ["_law_bag_here", "_law_my_many"] ⟨["_law_bag_here", "_law_my_many", "_law_cell", "_law_got_here"], ["_law_bag_here", "_law_my_many", "_law_cell", "_law_got_here"], [], ["len", "abs", "int"], ["len", "abs", "int"]⟩ gm F (by decide +kernel) (bsub hB (by decide +kernel)) ?kb ?len ?body
  case kb => exact kw_nil
  case len => rintro ds M Q E ⟨p, m, ⟨b, hb⟩, rfl, hm, hm2, q⟩; rfl
  case body =>
    rintro X w ds M Q E rfl rfl rfl rfl rfl hN hsc Sx ⟨p, m, ⟨b, hb⟩, rfl, hm, hm2, q⟩ he
    show DS X w (_ :: _) ([("_law_bag_here", 0, (some (.ptr p))), ("_law_my_many", 1, (some (.int m))), ("_law_cell", 2, none), ("_law_got_here", 3, none)] : Ga) _ _
    have hb4 := b.h4
    have hb5 := b.h5
    -- the first if, both ways to I
    refine ds_ifI (fun Γ' M' => ∃ b' : Bag, M' p = some b'.cell ∧ Keep p M M' ∧ ∃ o2 o3, Γ' = ([("_law_bag_here", 0, (some (.ptr p))), ("_law_my_many", 1, (some (.int m))), ("_law_cell", 2, o2), ("_law_got_here", 3, o3)] : Ga)) ?_ ?_
    · tbr_iter "dd"
      · rename_i h1 h2
        rw [List.length_map] at h2
        obtain ⟨j, hj⟩ : ∃ j : Nat, b.nx = j := ⟨b.nx.toNat, by have := b.h1; omega⟩
        have hj2 : j < b.cells.length := by omega
        refine lf_ixL (d := .int b.cells[j]) (by rw [hj]; exact atI_nat (by simp [hj2])) ?_
        tbr_iter "dd"
        · exact ⟨⟨b.cells, b.nx + 1, if b.cells[j] < 0 then -b.cells[j] else b.cells[j], b.mx, by omega, by omega, by split <;> omega, by omega, by omega, b.h6⟩, by rw [Mm.put_same]; rfl, by rw [Mm.put_put]; exact Keep.put, _, _, rfl⟩
        · exact ⟨⟨b.cells, b.nx + 1, b.gr, (b.mx * 40129 + b.cells[j] % 1000081 * 839 + 53) % 2147483543, by omega, by omega, b.h3, by omega, by omega, b.h6⟩, by rw [Mm.put_same]; rfl, by rw [Mm.put_put]; exact Keep.put, _, _, rfl⟩
      · exact ⟨b, hb, Keep.refl _ _, _, _, rfl⟩
      · exact ⟨b, hb, Keep.refl _ _, _, _, rfl⟩
    · rintro Γ' M' ⟨b', hb', kp, o2, o3, rfl⟩
      have hb4 := b'.h4
      have hb5 := b'.h5
      have hb3 := b'.h3
      tbr_iter "dd"
      · exact q _ _ (Int.emod_nonneg _ (by omega)) (Int.emod_lt_of_pos _ hm) ⟨⟨b'.cells, b'.nx, b'.gr / m, b'.mx, b'.h1, b'.h2, Int.ediv_nonneg hb3 (by omega), hb4, hb5, b'.h6⟩, by rw [Mm.put_same]; rfl⟩ (kp.trans Keep.put)
      · exact q _ _ (Int.emod_nonneg _ (by omega)) (Int.emod_lt_of_pos _ hm) ⟨⟨b'.cells, b'.nx, b'.gr, (b'.mx * b'.mx * 5 + b'.mx * 31013 + 1700021) % 2147483563, b'.h1, b'.h2, hb3, by omega, by omega, b'.h6⟩, by rw [Mm.put_same]; rfl⟩ (kp.trans Keep.put)
theorem ok__law_letters (T : TopFn K mg "_law_letters" (top 33)) (hB : ∀ x ∈ allB, mg x = none)  : FnD P W K mg base 1 "_law_letters" [] [] (sp__law_letters) := by
  obtain ⟨gm, fd, F⟩ := T
  refine fnD_of [] [] [] ⟨[], [], [], [], []⟩ gm F (by decide +kernel) (bsub hB (by decide +kernel)) ?kb ?len ?body
  case kb => exact kw_nil
  case len => rintro ds M Q E ⟨rfl, q⟩; rfl
  case body =>
    rintro X w ds M Q E rfl rfl rfl rfl rfl hN hsc Sx ⟨rfl, q⟩ he
    show DS X w (_ :: _) ([] : Ga) _ _
    tbr_iter "dd"
    exact q
theorem ok__law_is_number (T : TopFn K mg "_law_is_number" (top 36)) (hB : ∀ x ∈ allB, mg x = none)  : FnD P W K mg base 1 "_law_is_number" ["_law_value", "_law_low", "_law_high"] [] (sp__law_is_number) := by
  obtain ⟨gm, fd, F⟩ := T
  refine fnD_of ["_law_value", "_law_low", "_law_high"] [] ["_law_value", "_law_low", "_law_high"] ⟨["_law_value", "_law_low", "_law_high"], ["_law_value", "_law_low", "_law_high"], [], ["isinstance", "int", "bool"], ["isinstance", "int", "bool"]⟩ gm F (by decide +kernel) (bsub hB (by decide +kernel)) ?kb ?len ?body
  case kb => exact kw_nil
  case len => rintro ds M Q E ⟨v, lo, hi, hv, rfl, q⟩; rfl
  case body =>
    rintro X w ds M Q E rfl rfl rfl rfl rfl hN hsc Sx ⟨v, lo, hi, hv, rfl, q⟩ he
    show DS X w (_ :: _) ([("_law_value", 0, (some v)), ("_law_low", 1, (some (.int lo))), ("_law_high", 2, (some (.int hi)))] : Ga) _ _
    rcases D.smc hv with rfl | ⟨b, rfl⟩ | ⟨i, rfl⟩ | ⟨l, rfl, hl⟩ | ⟨ds, rfl⟩ | ⟨ds, rfl⟩
    all_goals tbr_iter "dd"
    all_goals first | exact q | skip
    · rename_i h; exact qb q (by simp [isNum, h])
    · rename_i h; exact qb q (by simp [isNum, h])
theorem ok__law_field (T : TopFn K mg "_law_field" (top 39)) (hB : ∀ x ∈ allB, mg x = none) : FldQ P W K mg base 1 := by
  refine fldQ_of T (n := ⟨["_law_e"], ["_law_e"], [], [], []⟩) (by decide +kernel) ?body
  case body =>
    intro X w a c code fs d M hsc Sx xf xa hc hk hd
    show DS X w (_ :: _) ([("_law_e", 0, some (.ptr a))] : Ga) _ _
    tbr_iter "dd"
    all_goals first
      | exact ⟨rfl, rfl⟩
      | exact ⟨fld_none ‹_› ‹_› ‹_› ‹_› ‹_› ‹_› ‹_›, rfl⟩
theorem ok_is_picture (T : TopFn K mg "is_picture" (top 17)) (hB : ∀ x ∈ allB, mg x = none) (GMOST_PICTURES : Gc mg "MOST_PICTURES" (.int 24)) (Cis_number : FnD P W K mg base 1 "is_number" ["value", "low", "high"] [] (sp_is_number)) : FnD P W K mg base 2 "is_picture" ["value"] [] (sp_is_picture) := by
  obtain ⟨gm, fd, F⟩ := T
  refine fnD_of ["value"] [] ["value"] ⟨["value"], ["value"], [], ["is_number", "MOST_PICTURES"], []⟩ gm F (by decide +kernel) (bsub hB (by decide +kernel)) ?kb ?len ?body
  case kb => exact kw_nil
  case len => rintro ds M Q E ⟨v, hv, rfl, q⟩; rfl
  case body =>
    rintro X w ds M Q E rfl rfl rfl rfl rfl hN hsc Sx ⟨v, hv, rfl, q⟩ he
    show DS X w (_ :: _) ([("value", 0, (some v))] : Ga) _ _
    tbr_iter "dd"
    exact q
theorem ok_closed (T : TopFn K mg "closed" (top 26)) (hB : ∀ x ∈ allB, mg x = none) (Cis_tie : FnD P W K mg base 1 "is_tie" ["saying"] [] (sp_is_tie)) : FnD P W K mg base 2 "closed" ["many", "sayings"] [] (sp_closed) := by
  obtain ⟨gm, fd, F⟩ := T
  refine fnD_of ["many", "sayings", "found", "saying", "one", "other", "whole", "thing"] ["picture"] ["many", "sayings"] ⟨["many", "sayings", "found", "saying", "one", "other", "whole", "thing"], ["many", "sayings", "found", "saying", "one", "other", "whole", "thing"], [], ["range", "is_tie"], ["range"]⟩ gm F (by decide +kernel) (bsub hB (by decide +kernel)) ?kb ?len ?body
  case kb => exact kw_nil
  case len => rintro ds M Q E ⟨m, says, ok, rfl, q⟩; rfl
  case body =>
    rintro X w ds M Q E rfl rfl rfl rfl rfl hN hsc Sx ⟨m, says, ok, rfl, q⟩ he
    show DS X w (_ :: _) ([("many", 0, (some (.int (m : Int)))), ("sayings", 1, (some (.lst (says.map Say.d)))), ("found", 2, none), ("saying", 3, none), ("one", 4, none), ("other", 5, none), ("whole", 6, none), ("thing", 7, none)] : Ga) _ _
    have hm24 := ok.mm
    have hl42 := ok.l
    refine ds_dcN Sx hN hsc 8 [] ⟨["picture"], ["picture"], [], [], []⟩ (by decide +kernel) (by tbr_iter "mem") (by tbr_iter "mems") (by tbr_iter "pk") (by tbr_iter "nd") (fun _ => rfl) (by tbr_iter "mem") (by tbr_iter "mem") rfl (by decide +kernel) ?_
    tbr_iter "dd"
    refine ⟨by rw [rngD_length]; omega, fun j acc M' => acc = encF lK (start j) ∧ M' = M, ⟨rfl, rfl⟩, ?_, ?_⟩
    · rintro j d acc M' hd ⟨rfl, rfl⟩ s0 H0 C cl fp Sb
      obtain ⟨hj, rfl⟩ := rngD_at0 hd
      tbr_iter "dd"
      intro s1 H1 C1 cl1 fp1 Sb1
      tbr_iter "dd"
      exact ⟨.inl (j : Int), rfl, (putKD_enc lK _ _ _).trans (congrArg _ start_succ), rfl⟩
    · rintro acc M1 ⟨rfl, rfl⟩ p hp
      rw [rngD_length]
      tbr_iter "dd"
      refine ds_for Sx (fun _ => rfl) ?_
      tbr_iter "dd"
      refine ⟨fun j Γ' M' => (∃ o_3 o_4 o_5 o_6 o_7 : Option D, Γ' = ([("many", 0, (some (.int (m : Int)))), ("sayings", 1, (some (.lst (says.map Say.d)))), ("found", 2, (some (.ptr p))), ("saying", 3, o_3), ("one", 4, o_4), ("other", 5, o_5), ("whole", 6, o_6), ("thing", 7, o_7)] : Ga)) ∧ M' = M1.put p (.k (encF lK ((says.take j).foldl stepS (start m)))), ⟨⟨_, _, _, _, _, rfl⟩, rfl⟩, ?_, ?_⟩
      · rintro j d Γ1 M' hd ⟨⟨o_3, o_4, o_5, o_6, o_7, rfl⟩, rfl⟩
        rw [List.getElem?_map] at hd
        obtain ⟨s, hs, rfl⟩ := Option.map_eq_some_iff.mp hd
        have hso := ok.ok s (List.mem_of_getElem? hs)
        have hsub : ∀ t ∈ says.take j, t.ok m := fun t ht => ok.ok t (List.mem_of_mem_take ht)
        obtain ⟨c, hlen⟩ := cls_fold (cls_start m) hsub
        rw [List.nil_append] at c
        have hk := keys_kOk c hsub
        rw [start_len, List.length_take] at hlen
        simp only [foldl_take stepS says (start m) hs]
        generalize (says.take j).foldl stepS (start m) = f at c hlen hk ⊢
        cases s with
        | nob i =>
          simp only [Say.d, stepS]
          tbr_iter "dd"
          exact ⟨⟨_, _, _, _, _, rfl⟩, rfl⟩
        | apa i j' =>
          simp only [Say.d, stepS]
          tbr_iter "dd"
          exact ⟨⟨_, _, _, _, _, rfl⟩, rfl⟩
        | isn i l =>
          simp only [Say.d, stepS]
          have nl := hso.2.2
          have kb : kOk (.inr (tx l)) := nameL_ok hso.2.2
          obtain ⟨c', la, lb, ha, hb, l1, l2, s1, s2⟩ := c.step (a := .inl i) (b := .inr (tx l)) (c.pic hso.1 hso.2.1)
          have kla : ∀ t ∈ la, kOk t := fun t ht => (s1 t ht).elim (hk t) fun e => by rw [e]; exact kb
          have sl := sdf_len (f := f) (b := .inr (tx l))
          tbr_iter "dd"
          · rename_i _ hn
            rw [stepC_nin ha hb hn, ← List.map_append, Mm.put_put]
            have hsb : ∀ k ∈ la ++ lb, k ∈ (sdf f (.inr (tx l))).map (·.1) := fun t ht => (c.sdf_cn.2.1 t).mpr ((List.mem_append.mp ht).elim (s1 t) (s2 t))
            refine ds_for Sx (fun _ => rfl) ?_
            tbr_iter "dd"
            refine ⟨fun j Γ' M' => (∃ o_3 o_4 o_5 o_7 : Option D, Γ' = ([("many", 0, (some (.int (m : Int)))), ("sayings", 1, (some (.lst (says.map Say.d)))), ("found", 2, (some (.ptr p))), ("saying", 3, o_3), ("one", 4, o_4), ("other", 5, o_5), ("whole", 6, (some (.lst ((la ++ lb).map kD)))), ("thing", 7, o_7)] : Ga)) ∧ M' = M1.put p (.k (encF lK (putAll (sdf f (.inr (tx l))) ((la ++ lb).take j) (la ++ lb)))), ⟨⟨_, _, _, _, rfl⟩, rfl⟩, ?_, ?_⟩
            · rintro j2 d2 Γ2 M2 hd2 ⟨⟨o_3, o_4, o_5, o_7, rfl⟩, rfl⟩
              rw [List.getElem?_map] at hd2
              obtain ⟨t, ht, rfl⟩ := Option.map_eq_some_iff.mp hd2
              have pl := putAll_len (v := la ++ lb) fun k hk => hsb k (List.mem_of_mem_take (i := j2) hk)
              simp only [take_more ht, L3.putAll_snoc]
              tbr_iter "dd"
              exact ⟨⟨_, _, _, _, rfl⟩, Mm.put_put⟩
            · rintro Γ2 M2 ⟨⟨o_3, o_4, o_5, o_7, rfl⟩, rfl⟩
              rw [List.length_map, List.take_length]
              tbr_iter "dd"
              exact ⟨⟨_, _, _, _, _, rfl⟩, rfl⟩
          · rename_i _ hn
            rw [stepC_in ha hb hn]
            exact ⟨⟨_, _, _, _, _, rfl⟩, Mm.put_put⟩
        | sam i j' =>
          simp only [Say.d, stepS]
          have kb : kOk ((.inl j')) := trivial
          obtain ⟨c', la, lb, ha, hb, l1, l2, s1, s2⟩ := c.step (a := .inl i) (b := (.inl j')) (c.pic hso.1 hso.2.1)
          have kla : ∀ t ∈ la, kOk t := fun t ht => (s1 t ht).elim (hk t) fun e => by rw [e]; exact kb
          have sl := sdf_len (f := f) (b := (.inl j'))
          tbr_iter "dd"
          · rename_i _ hn
            rw [stepC_nin ha hb hn, ← List.map_append, Mm.put_put]
            have hsb : ∀ k ∈ la ++ lb, k ∈ (sdf f ((.inl j'))).map (·.1) := fun t ht => (c.sdf_cn.2.1 t).mpr ((List.mem_append.mp ht).elim (s1 t) (s2 t))
            refine ds_for Sx (fun _ => rfl) ?_
            tbr_iter "dd"
            refine ⟨fun j Γ' M' => (∃ o_3 o_4 o_5 o_7 : Option D, Γ' = ([("many", 0, (some (.int (m : Int)))), ("sayings", 1, (some (.lst (says.map Say.d)))), ("found", 2, (some (.ptr p))), ("saying", 3, o_3), ("one", 4, o_4), ("other", 5, o_5), ("whole", 6, (some (.lst ((la ++ lb).map kD)))), ("thing", 7, o_7)] : Ga)) ∧ M' = M1.put p (.k (encF lK (putAll (sdf f ((.inl j'))) ((la ++ lb).take j) (la ++ lb)))), ⟨⟨_, _, _, _, rfl⟩, rfl⟩, ?_, ?_⟩
            · rintro j2 d2 Γ2 M2 hd2 ⟨⟨o_3, o_4, o_5, o_7, rfl⟩, rfl⟩
              rw [List.getElem?_map] at hd2
              obtain ⟨t, ht, rfl⟩ := Option.map_eq_some_iff.mp hd2
              have pl := putAll_len (v := la ++ lb) fun k hk => hsb k (List.mem_of_mem_take (i := j2) hk)
              simp only [take_more ht, L3.putAll_snoc]
              tbr_iter "dd"
              exact ⟨⟨_, _, _, _, rfl⟩, Mm.put_put⟩
            · rintro Γ2 M2 ⟨⟨o_3, o_4, o_5, o_7, rfl⟩, rfl⟩
              rw [List.length_map, List.take_length]
              tbr_iter "dd"
              exact ⟨⟨_, _, _, _, _, rfl⟩, rfl⟩
          · rename_i _ hn
            rw [stepC_in ha hb hn]
            exact ⟨⟨_, _, _, _, _, rfl⟩, Mm.put_put⟩
      · rintro Γ1 M' ⟨⟨o_3, o_4, o_5, o_6, o_7, rfl⟩, rfl⟩
        rw [List.length_map, List.take_length]
        refine ds_ret (de_freeze ?_)
        tbr_iter "dd"
        rw [Mm.put_del hp]
        exact q
theorem ok__law_pick (T : TopFn K mg "_law_pick" (top 32)) (hB : ∀ x ∈ allB, mg x = none) (C_law_draw : FnD P W K mg base 1 "_law_draw" ["_law_bag_here", "_law_my_many"] [] (sp__law_draw)) : FnD P W K mg base 2 "_law_pick" ["_law_bag_here", "_law_some"] [] (sp__law_pick) := by
  obtain ⟨gm, fd, F⟩ := T
  refine fnD_of ["_law_bag_here", "_law_some"] [] ["_law_bag_here", "_law_some"] ⟨["_law_bag_here", "_law_some"], ["_law_bag_here", "_law_some"], [], ["_law_draw", "len"], ["len"]⟩ gm F (by decide +kernel) (bsub hB (by decide +kernel)) ?kb ?len ?body
  case kb => exact kw_nil
  case len => rintro ds M Q E ⟨p, x, hb, rfl, h⟩; rfl
  case body =>
    rintro X w ds M Q E rfl rfl rfl rfl rfl hN hsc Sx ⟨p, x, hb, rfl, h⟩ he
    show DS X w (_ :: _) ([("_law_bag_here", 0, (some (.ptr p))), ("_law_some", 1, (some x))] : Ga) _ _
    rcases h with ⟨xs, rfl | rfl, l0, l1, q⟩ | ⟨s, rfl, l0, l1, q⟩
    · tbr_iter "dd"
      refine ⟨p, _, hb, rfl, by omega, by omega, fun i M' i0 i1 hb' kp => ?_⟩
      obtain ⟨j, rfl⟩ : ∃ j : Nat, i = j := ⟨i.toNat, by omega⟩
      have hj : j < xs.length := by omega
      refine .inl (lf_ixL (d := xs[j]) (atI_nat (by simp [hj])) ?_)
      tbr_iter "dd"
      exact q _ (List.getElem_mem hj) M' hb' kp
    · tbr_iter "dd"
      refine ⟨p, _, hb, rfl, by omega, by omega, fun i M' i0 i1 hb' kp => ?_⟩
      obtain ⟨j, rfl⟩ : ∃ j : Nat, i = j := ⟨i.toNat, by omega⟩
      have hj : j < xs.length := by omega
      refine .inl (lf_ixT (d := xs[j]) (atI_nat (by simp [hj])) ?_)
      tbr_iter "dd"
      exact q _ (List.getElem_mem hj) M' hb' kp
    · have hsz : s.length ≤ sizeLine := by rw [sizeLine_eq]; omega
      have hl : s.length = s.cps.toList.length := by simp [Str.length]
      tbr_iter "dd"
      refine ⟨p, _, hb, rfl, by omega, by omega, fun i M' i0 i1 hb' kp => ?_⟩
      obtain ⟨j, rfl⟩ : ∃ j : Nat, i = j := ⟨i.toNat, by omega⟩
      have hj : j < s.cps.toList.length := by omega
      refine .inl ⟨hsz, s.cps.toList[j], atI_nat (List.getElem?_eq_getElem hj), ?_⟩
      tbr_iter "dd"
      exact q _ (List.getElem_mem hj) M' hb' kp
theorem ok__law_is_name (T : TopFn K mg "_law_is_name" (top 37)) (hB : ∀ x ∈ allB, mg x = none) (C_law_letters : FnD P W K mg base 1 "_law_letters" [] [] (sp__law_letters)) : FnD P W K mg base 2 "_law_is_name" ["_law_value"] [] (sp__law_is_name) := by
  obtain ⟨gm, fd, F⟩ := T
  refine fnD_of ["_law_value"] ["_law_sign"] ["_law_value"] ⟨["_law_value"], ["_law_value"], [], ["isinstance", "str", "len", "all"], ["isinstance", "str", "len", "all"]⟩ gm F (by decide +kernel) (bsub hB (by decide +kernel)) ?kb ?len ?body
  case kb => exact kw_nil
  case len => rintro ds M Q E ⟨v, hv, rfl, q⟩; rfl
  case body =>
    rintro X w ds M Q E rfl rfl rfl rfl rfl hN hsc Sx ⟨v, hv, rfl, q⟩ he
    show DS X w (_ :: _) ([("_law_value", 0, (some v))] : Ga) _ _
    rcases D.smc hv with rfl | ⟨b, rfl⟩ | ⟨i, rfl⟩ | ⟨l, rfl, hl⟩ | ⟨ds, rfl⟩ | ⟨ds, rfl⟩
    any_goals (tbr_iter "dd"; exact q; done)
    tbr_iter "dd"
    · rename_i h0 h
      exact qb q (by simp only [isName, tx_l]; rw [decide_eq_false (p := l.length ≤ 8) (by omega)]; simp)
    · rename_i h0 h1
      refine de_lcN Sx hN hsc 1 [] ⟨["_law_sign"], ["_law_sign"], [], ["_law_letters"], []⟩ (by decide +kernel) (by tbr_iter "mem") (by tbr_iter "mems") (by tbr_iter "pk") (by tbr_iter "nd") (fun _ => rfl) ?_
      refine lcN_map l (fun c => .str (tx [c])) (fun c => .bl (decide (c ∈ abc.cps.toList))) (by rw [sizeLine_eq]; omega) ?hi ?he ?q
      case hi =>
        tbr_iter "dd"
        exact ⟨rfl, rfl⟩
      case he =>
        intro c hc s0 H0 C cl fp Sb
        tbr_iter "dd"
        exact ⟨rfl, rfl⟩
      case q =>
        tbr_iter "dd"
        exact qb q (by simp only [isName, tx_l]; rw [decide_eq_true (by omega), decide_eq_true (by omega)]; rfl)
    · rename_i h
      exact qb q (by simp only [isName, tx_l]; rw [decide_eq_false (p := 1 ≤ l.length) (by omega)]; simp)
theorem ok_is_saying (T : TopFn K mg "is_saying" (top 18)) (hB : ∀ x ∈ allB, mg x = none) (Cis_picture : FnD P W K mg base 2 "is_picture" ["value"] [] (sp_is_picture)) (Cis_name : FnD P W K mg base 1 "is_name" ["value"] [] (sp_is_name)) : FnD P W K mg base 3 "is_saying" ["value"] [] (sp_is_saying) := by
  obtain ⟨gm, fd, F⟩ := T
  refine fnD_of ["value", "word", "picture", "rest"] [] ["value"] ⟨["value", "word", "picture", "rest"], ["value", "word", "picture", "rest"], [], ["isinstance", "tuple", "len", "str", "is_picture", "is_name"], ["isinstance", "tuple", "len", "str"]⟩ gm F (by decide +kernel) (bsub hB (by decide +kernel)) ?kb ?len ?body
  case kb => exact kw_nil
  case len => rintro ds M Q E ⟨v, hv, rfl, q⟩; rfl
  case body =>
    rintro X w ds M Q E rfl rfl rfl rfl rfl hN hsc Sx ⟨v, hv, rfl, q⟩ he
    show DS X w (_ :: _) ([("value", 0, (some v)), ("word", 1, none), ("picture", 2, none), ("rest", 3, none)] : Ga) _ _
    rcases D.smc hv with rfl | ⟨b, rfl⟩ | ⟨i, rfl⟩ | ⟨l, rfl, hl⟩ | ⟨ds, rfl⟩ | ⟨ds, rfl⟩
    any_goals (tbr_iter "dd"; exact q; done)
    rcases ds with _ | ⟨a, _ | ⟨b, rest⟩⟩
    any_goals (tbr_iter "dd"; exact q; done)
    · tbr_iter "dd"
      exact qb q (by simp [isSay])
    · obtain ⟨m, hm, hln, hs⟩ := sm_tups hv
      obtain rfl : m = 7 := by omega
      obtain ⟨ha, hs⟩ := sms_consI hs
      obtain ⟨hb, hr⟩ := sms_consI hs
      have hb8 := sm7 hb
      have hr7 := sm_okk (n := 8) (sm_lst (by simp at hln; omega) hr) (by decide)
      rcases D.smc ha with rfl | ⟨x, rfl⟩ | ⟨x, rfl⟩ | ⟨wd, rfl, hl⟩ | ⟨x, rfl⟩ | ⟨x, rfl⟩
      any_goals (tbr_iter "dd"; exact q; done)
      tbr_iter "dd"
      · exact qb q (by rename_i h; simp [isSay, h])
      · rename_i hn
        obtain ⟨j, rfl, j0, j1⟩ := isNum_int hn
        simp only [List.take_succ_cons, List.take_zero, List.drop_succ_cons, List.drop_zero, List.cons_append, List.nil_append]
        rcases rest with _ | ⟨c, _ | ⟨c2, rest⟩⟩
        · tbr_iter "dd"
          · exact qb q (by rename_i h1; simp [isSay, hn, h1])
          · exact qb q (by rename_i h1; simp [isSay, hn, h1])
        · have hc8 := sm7 (sms_consI hr).1
          tbr_iter "dd"
          · exact qb q (by rename_i h1; simp [isSay, hn, h1])
          · exact qb q (by rename_i h0 h1; simp [isSay, hn, h1, show ¬ (("is" : Str) = "nobody") by decide +kernel])
          · exact qb q (by rename_i h0 h1 h2 h3; simp [isSay, hn, h0, h1, h2, h3])
          · exact qb q (by rename_i h0 h1 h2 h3; simp [isSay, hn, h0, h1, h2, h3])
          · exact qb q (by rename_i h0 h1 h2; simp [isSay, hn, h0, h1, h2])
        · tbr_iter "dd"
          · exact qb q (by rename_i h1; simp [isSay, hn, h1])
          · exact qb q (by rename_i h1; simp [isSay, hn, h1])
theorem ok__law_names (T : TopFn K mg "_law_names" (top 34)) (hB : ∀ x ∈ allB, mg x = none) (C_law_draw : FnD P W K mg base 1 "_law_draw" ["_law_bag_here", "_law_my_many"] [] (sp__law_draw)) (C_law_pick : FnD P W K mg base 2 "_law_pick" ["_law_bag_here", "_law_some"] [] (sp__law_pick)) (C_law_letters : FnD P W K mg base 1 "_law_letters" [] [] (sp__law_letters)) : FnD P W K mg base 3 "_law_names" ["_law_bag_here", "_law_my_many"] [] (sp__law_names) := by
  obtain ⟨gm, fd, F⟩ := T
  refine fnD_of ["_law_bag_here", "_law_my_many", "_law_stem", "_law_spot", "_law_base", "_law_step", "_law_more", "_law_found", "_law_k", "_law_sign"] [] ["_law_bag_here", "_law_my_many"] ⟨["_law_bag_here", "_law_my_many", "_law_stem", "_law_spot", "_law_base", "_law_step", "_law_more", "_law_found", "_law_k", "_law_sign"], ["_law_my_many", "_law_stem", "_law_spot", "_law_base", "_law_step", "_law_more", "_law_found", "_law_k", "_law_sign"], ["_law_bag_here"], ["range", "_law_draw", "len", "_law_pick", "_law_letters", "int"], ["range", "len", "int"]⟩ gm F (by decide +kernel) (bsub hB (by decide +kernel)) ?kb ?len ?body
  case kb => exact kw_nil
  case len => rintro ds M Q E ⟨p, n, hb, rfl, h0, h1, q⟩; rfl
  case body =>
    rintro X w ds M Q E rfl rfl rfl rfl rfl hN hsc Sx ⟨p, n, hb, rfl, h0, h1, q⟩ he
    show DS X w (_ :: _) ([("_law_bag_here", 0, (some (.ptr p))), ("_law_my_many", 1, (some (.int n))), ("_law_stem", 2, none), ("_law_spot", 3, none), ("_law_base", 4, none), ("_law_step", 5, none), ("_law_more", 6, none), ("_law_found", 7, none), ("_law_k", 8, none), ("_law_sign", 9, none)] : Ga) _ _
    have kp := Keep.refl p M
    tbr_iter "dd"
    refine de_lcN Sx hN hsc 8 ["_law_bag_here"] ⟨["_law_k"], ["_law_k"], [], ["_law_pick", "_law_letters"], []⟩ (by decide +kernel) (by tbr_iter "mem") (by tbr_iter "mems") (by tbr_iter "pk") (by tbr_iter "nd") (fun _ => rfl) ?_
    tbr_iter "dd"
    rename_i i M1 i0 i1 hb1 kp1
    refine ⟨by rw [rngD_length, sizeLine_eq]; omega, fun j acc M' => BagAt M' p ∧ Keep p M M' ∧ ∃ cs : List Nat, acc = cs.map (fun c => D.str ⟨#[c]⟩) ∧ cs.length = j ∧ ∀ c ∈ cs, 97 ≤ c ∧ c ≤ 122, ⟨hb1, kp1, [], rfl, rfl, by simp⟩, ?_, ?_⟩
    · rintro j d acc M2 hd ⟨hb2, kp2, cs, rfl, hc1, hc2⟩ s0 H0 C cl fp Sb
      refine ⟨fun _ s1 H1 C1 cl1 fp1 Sb1 => ?_, fun e => by cases e⟩
      tbr_iter "dd"
      rename_i c M3 hc hb3 kp3
      refine ⟨hb3, kp3, cs ++ [c], by simp, by simp [hc1], fun z hz => ?_⟩
      rcases List.mem_append.mp hz with y | y
      · exact hc2 z y
      · rw [List.mem_singleton.mp y]; exact mem_abc.mp hc
    · rintro acc M2 ⟨hb2, kp2, cs, rfl, hc1, hc2⟩
      rw [rngD_length] at hc1
      refine ⟨cs.map fun c => ⟨#[c]⟩, by simp [D.seqM], ?_, ?_⟩
      · have : ("" : Str).length = 0 := by decide +kernel
        rw [this, List.map_map, show ((fun x : Str => x.length) ∘ fun c => (⟨#[c]⟩ : Str)) = fun _ => 1 from rfl]
        rw [List.map_const', List.sum_replicate_nat]; simp; omega
      · rw [join_signs]
        tbr_iter "dd"
        rename_i sp M3 s0 s1 hb3 kp3 ba M4 b0 b1 hb4 kp4 st M5 hst hb5 kp5 mo M6 hmo _ _ hb6 kp6 l hl
        obtain ⟨t1, t2⟩ : st ∈ ([1, 3, 5, 7] : List Int) ∧ (1 ≤ st ∧ st ≤ 7) := by
          simp only [List.mem_cons, List.not_mem_nil, or_false, D.int.injEq] at hst
          rcases hst with rfl | rfl | rfl | rfl <;> exact ⟨by simp, by omega⟩
        obtain ⟨m1, m2⟩ : mo.length ≤ 1 ∧ ∀ c ∈ mo, 97 ≤ c ∧ c ≤ 122 := by
          simp only [List.mem_cons, List.not_mem_nil, or_false, D.str.injEq] at hmo
          rcases hmo with h | h | h | h
          all_goals
            have h := congrArg (fun s : Str => s.cps.toList) h
            simp only [tx_l] at h
            rw [h]
            decide +kernel
        refine ds_for Sx (fun _ => rfl) ?_
        tbr_iter "dd"
        refine ⟨fun j Γ' M' => ∃ o8 o9, Γ' = ([("_law_bag_here", 0, (some (.ptr p))), ("_law_my_many", 1, (some (.int n))), ("_law_stem", 2, (some (.str (tx cs)))), ("_law_spot", 3, (some (.int sp))), ("_law_base", 4, (some (.int ba))), ("_law_step", 5, (some (.int st))), ("_law_more", 6, (some (.str (tx mo)))), ("_law_found", 7, (some (.ptr l))), ("_law_k", 8, o8), ("_law_sign", 9, o9)] : Ga) ∧ M' = M6.put l (.l ((List.range j).map fun k => .str (tx (nameAt cs sp ba st mo k)))), ⟨_, _, rfl, rfl⟩, ?_, ?_⟩
        · rintro j d Γ1 M' hd ⟨o8, o9, rfl, rfl⟩
          obtain ⟨hj, rfl⟩ := rngD_at0 hd
          tbr_iter "dd"
          refine ⟨_, _, rfl, ?_⟩
          rw [Mm.put_put, List.range_succ, List.map_append]
          rfl
        · rintro Γ1 M' ⟨o8, o9, rfl, rfl⟩
          rw [rngD_length]
          refine ds_ret (de_freeze ?_)
          tbr_iter "dd"
          have h2 : cs.length ≤ 4 := by omega
          have h3 : n.toNat ≤ 26 := by omega
          have z := q ((List.range n.toNat).map fun k => tx (nameAt cs sp ba st mo k)) ((M6.put l (.l ((List.range n.toNat).map fun k => .str (tx (nameAt cs sp ba st mo k))))).del l) (names_ok h2 hc2 m1 m2 t1 h3) (hb6.del hl) (keep_del kp6 hl rfl)
          rw [List.map_map] at z
          exact z
theorem ok__law_is_saying (T : TopFn K mg "_law_is_saying" (top 38)) (hB : ∀ x ∈ allB, mg x = none) (C_law_is_number : FnD P W K mg base 1 "_law_is_number" ["_law_value", "_law_low", "_law_high"] [] (sp__law_is_number)) (C_law_is_name : FnD P W K mg base 2 "_law_is_name" ["_law_value"] [] (sp__law_is_name)) : FnD P W K mg base 3 "_law_is_saying" ["_law_value"] [] (sp__law_is_saying) := by
  obtain ⟨gm, fd, F⟩ := T
  refine fnD_of ["_law_value"] [] ["_law_value"] ⟨["_law_value"], ["_law_value"], [], ["isinstance", "tuple", "len", "_law_is_number", "str", "_law_is_name"], ["isinstance", "tuple", "len", "str"]⟩ gm F (by decide +kernel) (bsub hB (by decide +kernel)) ?kb ?len ?body
  case kb => exact kw_nil
  case len => rintro ds M Q E ⟨v, hv, rfl, q⟩; rfl
  case body =>
    rintro X w ds M Q E rfl rfl rfl rfl rfl hN hsc Sx ⟨v, hv, rfl, q⟩ he
    show DS X w (_ :: _) ([("_law_value", 0, (some v))] : Ga) _ _
    rcases D.smc hv with rfl | ⟨b, rfl⟩ | ⟨i, rfl⟩ | ⟨l, rfl, hl⟩ | ⟨ds, rfl⟩ | ⟨ds, rfl⟩
    any_goals (tbr_iter "dd"; exact q; done)
    obtain ⟨m, hm, hln, hs⟩ := sm_tups hv
    obtain rfl : m = 7 := by omega
    rcases ds with _ | ⟨a, _ | ⟨b, _ | ⟨c, _ | ⟨d, rest⟩⟩⟩⟩
    · tbr_iter "dd"
      exact qb q rfl
    · tbr_iter "dd"
      exact qb q (by cases a <;> rfl)
    · have ha := (sms_consI hs).1
      have hb := sm7 (sms_consI (sms_consI hs).2).1
      rcases D.smc ha with rfl | ⟨x, rfl⟩ | ⟨x, rfl⟩ | ⟨wd, rfl, hl⟩ | ⟨x, rfl⟩ | ⟨x, rfl⟩
      all_goals tbr_iter "dd"
      any_goals exact q
      · rename_i h1; exact qb q (by simp [isSay, h1])
      · rename_i h1; exact qb q (by simp [isSay, h1])
    · have ha := (sms_consI hs).1
      have hb := sm7 (sms_consI (sms_consI hs).2).1
      have hc := sm7 (sms_consI (sms_consI (sms_consI hs).2).2).1
      rcases D.smc ha with rfl | ⟨x, rfl⟩ | ⟨x, rfl⟩ | ⟨wd, rfl, hl⟩ | ⟨x, rfl⟩ | ⟨x, rfl⟩
      all_goals tbr_iter "dd"
      any_goals exact q
      · rename_i h1; exact qb q (by simp [isSay, h1])
      · rename_i h1 h2; exact qb q (by simp [isSay, h1, h2, ne_is])
      · rename_i h1 h2 h3 h4
        have ne : ¬ tx wd = "nobody" := by rcases h3 with h | h <;> rw [← h] <;> first | exact ne_sn | exact ne_an
        exact qb q (by simp [isSay, h1, h2, h3, h4, ne])
      · rename_i h1 h2 h3 h4; exact qb q (by simp [isSay, h1, h2, h3, h4])
      · rename_i h1 h2 h3; exact qb q (by simp [isSay, h1, h2, h3])
    · tbr_iter "dd"
      exact qb q (by cases a <;> simp [isSay])
theorem ok_check_sayings (T : TopFn K mg "check_sayings" (top 25)) (hB : ∀ x ∈ allB, mg x = none) (EInvalidSaying : ErrD P W K mg base 1 "InvalidSaying" 1 [("at", .inl 0), ("code", .inr "InvalidSaying")]) (Cis_saying : FnD P W K mg base 3 "is_saying" ["value"] [] (sp_is_saying)) (Cpictures_of : FnD P W K mg base 1 "pictures_of" ["saying"] [] (sp_pictures_of)) : FnD P W K mg base 4 "check_sayings" ["many", "sayings"] [] (sp_check_sayings) := by
  obtain ⟨gm, fd, F⟩ := T
  refine fnD_of ["many", "sayings", "at", "saying"] ["picture"] ["many", "sayings"] ⟨["many", "sayings", "at", "saying"], ["sayings", "at", "saying"], ["many"], ["enumerate", "is_saying", "all", "pictures_of", "InvalidSaying"], ["enumerate", "all"]⟩ gm F (by decide +kernel) (bsub hB (by decide +kernel)) ?kb ?len ?body
  case kb => exact kw_nil
  case len => rintro ds M Q E ⟨m, vs, x, hm24, hvs, hl, hx, rfl, qT, qF⟩; rfl
  case body =>
    rintro X w ds M Q E rfl rfl rfl rfl rfl hN hsc Sx ⟨m, vs, x, hm24, hvs, hl, hx, rfl, qT, qF⟩ he
    show DS X w (_ :: _) ([("many", 0, (some (.int (m : Int)))), ("sayings", 1, (some x)), ("at", 2, none), ("saying", 3, none)] : Ga) _ _
    refine ds_for Sx (fun _ => rfl) ?_
    tbr_iter "dd"
    refine ⟨fun j Γ' M' => (∃ o_2 o_3 : Option D, Γ' = ([("many", 0, (some (.int (m : Int)))), ("sayings", 1, (some x)), ("at", 2, o_2), ("saying", 3, o_3)] : Ga)) ∧ M' = M ∧ ∀ u ∈ vs.take j, okV m u, ⟨⟨_, _, rfl⟩, rfl, by simp⟩, ?_, ?_⟩
    · rintro j d Γ1 M1 hd ⟨⟨o_2, o_3, rfl⟩, rfl, hgood⟩
      obtain ⟨v, hv, rfl⟩ := enum_getV hd
      have h8 := D.sms_mem hvs (List.mem_of_getElem? hv)
      tbr_iter "dd"
      · rename_i hF
        rw [he]
        exact ⟨rfl, qF j v hv (fun z => by (rw [okV_say hm24 z] at hF; cases hF)) hgood⟩
      rename_i hS
      obtain ⟨s, rfl, hso⟩ := say_of hS
      cases s with
      | nob i =>
        simp only [Say.d] at h8 hS ⊢
        tbr_iter "dd"
        refine de_lcN Sx hN hsc 4 ["many"] ⟨["picture"], ["picture"], [], [], []⟩ (by decide +kernel) (by tbr_iter "mem") (by tbr_iter "mems") (by tbr_iter "pk") (by tbr_iter "nd") (fun _ => rfl) ?_
        refine lcN_map [i] D.int (fun c => .bl (decide (c < (m : Int)))) (by rw [sizeLine_eq]; simp) ?zi ?ze ?zq
        case zi => tbr_iter "dd"; exact ⟨rfl, rfl⟩
        case ze =>
          intro x hx s0 H0 C cl fp Sb
          tbr_iter "dd"
          exact ⟨rfl, rfl⟩
        case zq =>
          tbr_iter "dd"
          · rename_i hp
            rw [he]
            exact ⟨rfl, qF j _ hv (not_okV (s := (.nob i)) hp) hgood⟩
          · rename_i hp
            exact ⟨⟨_, _, rfl⟩, rfl, mem_snoc hv hgood ⟨.nob i, rfl, ok_pics hso hp⟩⟩
      | isn i l =>
        simp only [Say.d] at h8 hS ⊢
        tbr_iter "dd"
        refine de_lcN Sx hN hsc 4 ["many"] ⟨["picture"], ["picture"], [], [], []⟩ (by decide +kernel) (by tbr_iter "mem") (by tbr_iter "mems") (by tbr_iter "pk") (by tbr_iter "nd") (fun _ => rfl) ?_
        refine lcN_map [i] D.int (fun c => .bl (decide (c < (m : Int)))) (by rw [sizeLine_eq]; simp) ?zi ?ze ?zq
        case zi => tbr_iter "dd"; exact ⟨rfl, rfl⟩
        case ze =>
          intro x hx s0 H0 C cl fp Sb
          tbr_iter "dd"
          exact ⟨rfl, rfl⟩
        case zq =>
          tbr_iter "dd"
          · rename_i hp
            rw [he]
            exact ⟨rfl, qF j _ hv (not_okV (s := (.isn i l)) hp) hgood⟩
          · rename_i hp
            exact ⟨⟨_, _, rfl⟩, rfl, mem_snoc hv hgood ⟨.isn i l, rfl, ok_pics hso hp⟩⟩
      | sam i i' =>
        simp only [Say.d] at h8 hS ⊢
        tbr_iter "dd"
        refine de_lcN Sx hN hsc 4 ["many"] ⟨["picture"], ["picture"], [], [], []⟩ (by decide +kernel) (by tbr_iter "mem") (by tbr_iter "mems") (by tbr_iter "pk") (by tbr_iter "nd") (fun _ => rfl) ?_
        refine lcN_map [i, i'] D.int (fun c => .bl (decide (c < (m : Int)))) (by rw [sizeLine_eq]; simp) ?zi ?ze ?zq
        case zi => tbr_iter "dd"; exact ⟨rfl, rfl⟩
        case ze =>
          intro x hx s0 H0 C cl fp Sb
          tbr_iter "dd"
          exact ⟨rfl, rfl⟩
        case zq =>
          tbr_iter "dd"
          · rename_i hp
            rw [he]
            exact ⟨rfl, qF j _ hv (not_okV (s := (.sam i i')) hp) hgood⟩
          · rename_i hp
            exact ⟨⟨_, _, rfl⟩, rfl, mem_snoc hv hgood ⟨(.sam i i'), rfl, ok_pics hso hp⟩⟩
      | apa i i' =>
        simp only [Say.d] at h8 hS ⊢
        tbr_iter "dd"
        refine de_lcN Sx hN hsc 4 ["many"] ⟨["picture"], ["picture"], [], [], []⟩ (by decide +kernel) (by tbr_iter "mem") (by tbr_iter "mems") (by tbr_iter "pk") (by tbr_iter "nd") (fun _ => rfl) ?_
        refine lcN_map [i, i'] D.int (fun c => .bl (decide (c < (m : Int)))) (by rw [sizeLine_eq]; simp) ?zi ?ze ?zq
        case zi => tbr_iter "dd"; exact ⟨rfl, rfl⟩
        case ze =>
          intro x hx s0 H0 C cl fp Sb
          tbr_iter "dd"
          exact ⟨rfl, rfl⟩
        case zq =>
          tbr_iter "dd"
          · rename_i hp
            rw [he]
            exact ⟨rfl, qF j _ hv (not_okV (s := (.apa i i')) hp) hgood⟩
          · rename_i hp
            exact ⟨⟨_, _, rfl⟩, rfl, mem_snoc hv hgood ⟨(.apa i i'), rfl, ok_pics hso hp⟩⟩
    · rintro Γ1 M1 ⟨⟨o_2, o_3, rfl⟩, rfl, hgood⟩
      rw [enumD_length, List.take_length] at hgood
      tbr_iter "dd"
      exact qT hgood
theorem ok__law_any (T : TopFn K mg "_law_any" (top 35)) (hB : ∀ x ∈ allB, mg x = none) (C_law_draw : FnD P W K mg base 1 "_law_draw" ["_law_bag_here", "_law_my_many"] [] (sp__law_draw)) (C_law_pick : FnD P W K mg base 2 "_law_pick" ["_law_bag_here", "_law_some"] [] (sp__law_pick)) (C_law_names : FnD P W K mg base 3 "_law_names" ["_law_bag_here", "_law_my_many"] [] (sp__law_names)) : FnD P W K mg base 4 "_law_any" ["_law_bag_here", "_law_most", "_law_size"] [] (sp__law_any) := by
  obtain ⟨gm, fd, F⟩ := T
  refine fnD_of ["_law_bag_here", "_law_most", "_law_size", "_law_many_z", "_law_names_here", "_law_found", "_law_k", "_law_one", "_law_two", "_law_way"] [] ["_law_bag_here", "_law_most", "_law_size"] ⟨["_law_bag_here", "_law_most", "_law_size", "_law_many_z", "_law_names_here", "_law_found", "_law_k", "_law_one", "_law_two", "_law_way"], ["_law_bag_here", "_law_most", "_law_size", "_law_many_z", "_law_names_here", "_law_found", "_law_k", "_law_one", "_law_two", "_law_way"], [], ["_law_draw", "_law_names", "range", "_law_pick"], ["range"]⟩ gm F (by decide +kernel) (bsub hB (by decide +kernel)) ?kb ?len ?body
  case kb => exact kw_nil
  case len => rintro ds M Q E ⟨p, most, size, hb, m0, m1, z0, z1, rfl, q⟩; rfl
  case body =>
    rintro X w ds M Q E rfl rfl rfl rfl rfl hN hsc Sx ⟨p, most, size, hb, m0, m1, z0, z1, rfl, q⟩ he
    show DS X w (_ :: _) ([("_law_bag_here", 0, (some (.ptr p))), ("_law_most", 1, (some (.int most))), ("_law_size", 2, (some (.int size))), ("_law_many_z", 3, none), ("_law_names_here", 4, none), ("_law_found", 5, none), ("_law_k", 6, none), ("_law_one", 7, none), ("_law_two", 8, none), ("_law_way", 9, none)] : Ga) _ _
    have kp := Keep.refl p M
    tbr_iter "dd"
    rename_i i M1 i0 i1 hb1 kp1 names M2 hn hb2 kp2 q1 hq1
    obtain ⟨m, hm⟩ : ∃ m : Nat, 2 + i = (m : Int) := ⟨(2 + i).toNat, by omega⟩
    rw [hm]
    have nq : p ≠ q1 := hb2.ne hq1
    have hb2' := hb2.other (c := .l []) nq
    have kp2' := Keep.refl p (M2.put q1 (.l []))
    have hqM : M q1 = none := by rw [← kp2 q1 nq.symm]; exact hq1
    refine ds_for Sx (fun _ => rfl) ?_
    tbr_iter "dd"
    rename_i cnt M3 c0 c1 hb3 kp3
    have k20 : Keep2 p q1 M M3 := Keep2.more (Keep2.put ⟨fun r a b => kp2 r a⟩) kp3
    refine ⟨fun j Γ' M' => (∃ o_6 o_7 o_8 o_9 : Option D, Γ' = ([("_law_bag_here", 0, (some (.ptr p))), ("_law_most", 1, (some (.int most))), ("_law_size", 2, (some (.int size))), ("_law_many_z", 3, (some (.int (m : Int)))), ("_law_names_here", 4, (some (.lst (names.map fun l => .str (tx l))))), ("_law_found", 5, (some (.ptr q1))), ("_law_k", 6, o_6), ("_law_one", 7, o_7), ("_law_two", 8, o_8), ("_law_way", 9, o_9)] : Ga)) ∧ ∃ says : List Say, says.length ≤ j ∧ (∀ s ∈ says, s.ok m) ∧ BagAt M' p ∧ M' q1 = some (.l (says.map Say.d)) ∧ Keep2 p q1 M M', ⟨⟨_, _, _, _, rfl⟩, [], Nat.le_refl _, by simp, hb3, kp3.get nq.symm Mm.put_same, k20⟩, ?_, ?_⟩
    · rintro j d Γ1 M' hd ⟨⟨o_6, o_7, o_8, o_9, rfl⟩, says, l1, hok, hb, hq, k2⟩
      obtain ⟨hj, rfl⟩ := rngD_at0 hd
      have kp := Keep.refl p M'
      have hl := List.length_map (f := Say.d) (as := says)
      tbr_iter "dd"
      · rename_i one Ma o0 o1 hba kpa two Mb t0 t1 hbb kpb way Mc w0 w1 hbc kpc hw
        exact ⟨⟨_, _, _, _, rfl⟩, says ++ [.nob one], len_snoc l1, ok_snoc (s := .nob one) hok ⟨o0, o1⟩, hbc.other nq, put_says rfl, (k2.more kpc).put⟩
      · rename_i one Ma o0 o1 hba kpa two Mb t0 t1 hbb kpb way Mc w0 w1 hbc kpc hw1 hw2
        refine lf_pickL hbc kpc (by rw [List.length_map, hn.1]; decide) (by rw [List.length_map, hn.1]; decide) fun d M5 hd hb5 kp5 => ?_
        obtain ⟨l, hlm, rfl⟩ := List.mem_map.mp hd
        have hq5 := kp5.get nq.symm hq
        tbr_iter "dd"
        exact ⟨⟨_, _, _, _, rfl⟩, says ++ [.isn one l], len_snoc l1, ok_snoc (s := .isn one l) hok ⟨o0, o1, hn.2.1 l hlm⟩, hb5.other nq, put_says rfl, (k2.more kp5).put⟩
      · rename_i one Ma o0 o1 hba kpa two Mb t0 t1 hbb kpb way Mc w0 w1 hbc kpc hw1 hw2 hne hw3
        exact ⟨⟨_, _, _, _, rfl⟩, says ++ [.sam one two], len_snoc l1, ok_snoc (s := .sam one two) hok ⟨o0, o1, t0, t1, hne⟩, hbc.other nq, put_says rfl, (k2.more kpc).put⟩
      · rename_i one Ma o0 o1 hba kpa two Mb t0 t1 hbb kpb way Mc w0 w1 hbc kpc hw1 hw2 hne hw3
        exact ⟨⟨_, _, _, _, rfl⟩, says ++ [.apa one two], len_snoc l1, ok_snoc (s := .apa one two) hok ⟨o0, o1, t0, t1, hne⟩, hbc.other nq, put_says rfl, (k2.more kpc).put⟩
      · rename_i one Ma o0 o1 hba kpa two Mb t0 t1 hbb kpb way Mc w0 w1 hbc kpc hw1 hw2 hne
        exact ⟨⟨_, _, _, _, rfl⟩, says, by omega, hok, hbc, kpc.get nq.symm hq, k2.more kpc⟩
    · rintro Γ1 M' ⟨⟨o_6, o_7, o_8, o_9, rfl⟩, says, l1, hok, hb, hq, k2⟩
      rw [rngD_length] at l1
      refine ds_frz (by tbr_iter "has") hq (by tbr_iter "put") ?_
      tbr_iter "dd"
      exact q m says _ ⟨by omega, by omega, hok⟩ (by omega) (by omega) (by omega) (hb.del' nq) (k2.del hqM)
theorem ok_Album___init__ (T : TopIV K mg "Album" "Album.__init__" (mst 27 2) [.int 0, .tup []]) (hB : ∀ x ∈ allB, mg x = none) (GMOST_PICTURES : Gc mg "MOST_PICTURES" (.int 24)) (GMOST_SAYINGS : Gc mg "MOST_SAYINGS" (.int 40)) (KAlbum : ClsD K mg "Album" ["own_many", "own_sayings", "own_ties", "own_leaders", "own_names", "own_single", "own_bars"]) (EInvalidCount : ErrD P W K mg base 1 "InvalidCount" 1 [("given", .inl 0), ("code", .inr "InvalidCount")]) (EInvalidSaying : ErrD P W K mg base 1 "InvalidSaying" 1 [("at", .inl 0), ("code", .inr "InvalidSaying")]) (ETooMany : ErrD P W K mg base 1 "TooMany" 1 [("most", .inl 0), ("code", .inr "TooMany")]) (Cis_number : FnD P W K mg base 1 "is_number" ["value", "low", "high"] [] (sp_is_number)) (Cis_list : FnD P W K mg base 1 "is_list" ["value"] [] (sp_is_list)) (Ccheck_sayings : FnD P W K mg base 4 "check_sayings" ["many", "sayings"] [] (sp_check_sayings)) (Cclosed : FnD P W K mg base 2 "closed" ["many", "sayings"] [] (sp_closed)) (CAlbum_said_bars : MthD P W K mg base 1 "Album" "said_bars" ["self"] [] (sp_Album_said_bars)) : IniD P W K mg base 5 "Album" ["self", "many", "sayings"] [⟨1, ["many"], [0, 2], [.int 0, .tup []]⟩, ⟨2, [], [1], [.int 0, .tup []]⟩, ⟨1, [], [0, 1], [.int 0, .tup []]⟩] (sp_Album___init__) := by
  have chk : defB0 ["self", "many", "sayings", "picture", "tied", "names"] ["thing", "one"] ["self", "many", "sayings"] (mst 27 2) ⟨["self", "many", "sayings", "picture", "tied", "names"], ["many", "sayings", "picture", "tied", "names"], ["self"], ["is_number", "MOST_PICTURES", "InvalidCount", "is_list", "InvalidSaying", "check_sayings", "len", "MOST_SAYINGS", "TooMany", "list", "closed", "range", "min", "sorted"], ["len", "list", "range", "min", "sorted", "isinstance", "str"]⟩ = true := by decide +kernel
  obtain ⟨gm, f, fd, hm, F⟩ := T
  refine ⟨gm, f, fd, hm, fnOk_ofV ["self", "many", "sayings", "picture", "tied", "names"] ["thing", "one"] ["self", "many", "sayings"] ⟨["self", "many", "sayings", "picture", "tied", "names"], ["many", "sayings", "picture", "tied", "names"], ["self"], ["is_number", "MOST_PICTURES", "InvalidCount", "is_list", "InvalidSaying", "check_sayings", "len", "MOST_SAYINGS", "TooMany", "list", "closed", "range", "min", "sorted"], ["len", "list", "range", "min", "sorted", "isinstance", "str"]⟩ F (defB0_of chk) (bsub hB (by decide +kernel)) ?len ?body, F.bindsAll (by simp) fun T kV doc pm an cdv ct us its h1 h2 => match us, its, h1, h2 with | [_, _, _], [_, _], _, _ => ⟨_, rfl, rfl⟩, ?kb⟩
  case kb => exact kw_cons (F.kb (by simp) _ rfl fun T kV doc pm an cdv ct us ws its h1 h2 h3 => match us, ws, its, h1, h2, h3 with | [_], [_], [_, _], _, _, _ => ⟨_, rfl, rfl⟩) (kw_cons (F.kb (by simp) _ rfl fun T kV doc pm an cdv ct us ws its h1 h2 h3 => match us, ws, its, h1, h2, h3 with | [_, _], [], [_, _], _, _, _ => ⟨_, rfl, rfl⟩) (kw_cons (F.kb (by simp) _ rfl fun T kV doc pm an cdv ct us ws its h1 h2 h3 => match us, ws, its, h1, h2, h3 with | [_], [], [_, _], _, _, _ => ⟨_, rfl, rfl⟩) (kw_nil)))
  case len => rintro ds M Q E ⟨p, v, xs, hm, rfl, hc⟩; rfl
  case body =>
    rintro X w ds M Q E rfl rfl rfl rfl rfl hN hsc Sx ⟨p, v, xs, hm, rfl, hc⟩ he
    show DS X w (_ :: _) ([("self", 0, (some (.ptr p))), ("many", 1, (some v)), ("sayings", 2, (some xs)), ("picture", 3, none), ("tied", 4, none), ("names", 5, none)] : Ga) _ _
    rcases hc with hc | hc
    rotate_left
    · rcases hc with ⟨hv, hF, qE⟩ | ⟨m, hm24, rfl, hx8, hxF, qE⟩ | ⟨m, vs, j, u, hm24, rfl, hx, h8, hl, hj, hn, hg, qE⟩ | ⟨m, vs, hm24, rfl, hx, h8, hl, hg, h40, qE⟩
      · tbr_iter "dd"
        all_goals first
          | (rw [he]; exact ⟨rfl, qE⟩)
          | (rename_i hT; rw [hF] at hT; cases hT)
      · tbr_iter "dd"
        refine ⟨_, .inr hx8, rfl, ?_⟩
        rw [hxF]
        tbr_iter "dd"
        rw [he]
        exact ⟨rfl, qE⟩
      · tbr_iter "dd"
        refine ⟨m, vs, _, hm24, h8, hl, hx, rfl, fun h => absurd (h _ (List.mem_of_getElem? hj)) hn, fun j2 v2 hj2 nv2 hg2 => ?_⟩
        obtain rfl := first_uniq hj hn hg hj2 nv2 hg2
        rw [he]
        exact qE
      · tbr_iter "dd"
        refine ⟨m, vs, _, hm24, h8, hl, hx, rfl, fun _ => ?_, fun j2 v2 hj2 nv2 _ => absurd (hg _ (List.mem_of_getElem? hj2)) nv2⟩
        tbr_iter "dd"
        rw [he]
        exact ⟨rfl, qE⟩
    obtain ⟨m, says, ok, rfl, hx, q⟩ := hc
    have hm24 := ok.mm
    have hl40 := ok.l
    tbr_iter "dd"
    rename_i q1 hq1 q2 hq2
    obtain ⟨n1, hq1⟩ := none_put hq1
    obtain ⟨n2, hq2⟩ := none_put hq2
    obtain ⟨n3, hq2⟩ := none_put hq2
    obtain ⟨_, hq2⟩ := none_put hq2
    refine ds_for Sx (fun _ => rfl) ?_
    tbr_iter "dd"
    refine ⟨fun j Γ' M' => (∃ o_3 o_4 o_5 : Option D, Γ' = ([("self", 0, (some (.ptr p))), ("many", 1, (some (.int (m : Int)))), ("sayings", 2, (some xs)), ("picture", 3, o_3), ("tied", 4, o_4), ("names", 5, o_5)] : Ga)) ∧ ∃ ld nm, ld.length = j ∧ nm.length = j ∧ (∀ (i : Nat) l, ld[i]? = some l → IsLead m (ties says) i l) ∧ (∀ (i : Nat) l, nm[i]? = some l → IsNames (ties says) i l) ∧ M' = ((M.put q1 (.k (encF D.int (idxA 0 ld)))).put q2 (.k (encF lS (idxA 0 nm)))).put p (.o "Album" [("own_many", .int m), ("own_sayings", .lst (says.map Say.d)), ("own_ties", .dK (encF lK (closedL m says))), ("own_leaders", .ptr q1), ("own_names", .ptr q2)]), ⟨⟨_, _, _, rfl⟩, [], [], rfl, rfl, by simp, by simp, ?_⟩, ?_, ?_⟩
    · funext x
      unfold Mm.put
      by_cases a : x = p
      · simp only [if_pos a]
      · simp only [if_neg a]; rfl
    · rintro j d Γ1 M1 hd ⟨⟨o_3, o_4, o_5, rfl⟩, ld, nm, l1, l2, hld, hnm, rfl⟩
      obtain ⟨hj, rfl⟩ := rngD_at0 hd
      obtain ⟨l, hl, hself, hlen, hok⟩ := cls_get ok (i := (j : Int)) (by omega) (by omega)
      have hnl := nams_lt hself
      have z1 := idxA_length (n := 0) (l := ld)
      have z2 := idxA_length (n := 0) (l := nm)
      tbr_iter "dd"
      refine de_lcN Sx hN hsc 6 [] ⟨["thing"], ["thing"], [], ["isinstance", "str"], ["isinstance", "str"]⟩ (by decide +kernel) (by tbr_iter "mem") (by tbr_iter "mems") (by tbr_iter "pk") (by tbr_iter "nd") (fun _ => rfl) ?_
      refine lcN_filter l kD kD (fun k => !isS k) (by rw [sizeLine_eq]; omega) ?zhi ?zhc ?zhe ?zq
      case zhi => tbr_iter "dd"; exact ⟨rfl, rfl⟩
      case zhc =>
        intro k hk s0 H0 C cl fp Sb
        cases k with
        | inl i => simp only [kD]; tbr_iter "dd"; exact ⟨rfl, rfl⟩
        | inr s => simp only [kD]; tbr_iter "dd"; exact ⟨rfl, rfl⟩
      case zhe =>
        intro k hk hp s0 H0 C cl fp Sb
        tbr_iter "dd"
        exact ⟨rfl, rfl⟩
      case zq =>
        rw [filter_pics]
        refine .inl ⟨picsK l, rfl, List.length_pos_of_mem (mem_pics.mpr hself), fun x hx hle => ?_⟩
        tbr_iter "dd"
        rw [idxA_put l1]
        have hL := lead_of ok (by omega) (by omega) hl hx hle
        refine de_lcN Sx hN hsc 6 [] ⟨["thing"], ["thing"], [], ["isinstance", "str"], ["isinstance", "str"]⟩ (by decide +kernel) (by tbr_iter "mem") (by tbr_iter "mems") (by tbr_iter "pk") (by tbr_iter "nd") (fun _ => rfl) ?_
        refine lcN_filter l kD kD isS (by rw [sizeLine_eq]; omega) ?yi ?yc ?ye ?yq
        case yi => tbr_iter "dd"; exact ⟨rfl, rfl⟩
        case yc =>
          intro k hk s0 H0 C cl fp Sb
          cases k with
          | inl i => simp only [kD]; tbr_iter "dd"; exact ⟨rfl, rfl⟩
          | inr s => simp only [kD]; tbr_iter "dd"; exact ⟨rfl, rfl⟩
        case ye =>
          intro k hk hp s0 H0 C cl fp Sb
          tbr_iter "dd"
          exact ⟨rfl, rfl⟩
        case yq =>
          rw [filter_nams]
          refine .inl (.inr ⟨namsK l, rfl, by omega, fun ys hp hs => ?_⟩)
          tbr_iter "dd"
          rw [idxA_put l2]
          refine ⟨⟨_, _, _, rfl⟩, ld ++ [x], nm ++ [ys], by simp [l1], by simp [l2], app_get (P := fun (i : Nat) l => IsLead m (ties says) i l) l1 hld hL, app_get (P := fun (i : Nat) l => IsNames (ties says) i l) l2 hnm (names_of ok hl hp hs), put3 n1 n2 n3⟩
    · rintro Γ1 M1 ⟨⟨o_3, o_4, o_5, rfl⟩, ld, nm, l1, l2, hld, hnm, rfl⟩
      rw [rngD_length] at l1 l2
      have l1 : ld.length = m := by omega
      have l2 : nm.length = m := by omega
      refine ds_frz2 (f1 := "own_leaders") (f2 := "own_names") n1 n2 n3 hq1 hq2 (by tbr_iter "alk") (by tbr_iter "ptd") (by tbr_iter "alk") (by tbr_iter "ptd") ?_
      simp only [Cell.data]
      obtain ⟨a, ha⟩ : ∃ a : Alb, a = ⟨m, says, ld, nm, []⟩ := ⟨_, rfl⟩
      have am : a.many = m := by rw [ha]
      have as : a.says = says := by rw [ha]
      have al : a.leads = ld := by rw [ha]
      refine ds_fld rfl ?_
      refine de_sortSC Sx hN hsc 7 ["self"] ⟨["one"], ["one"], [], [], []⟩ (by decide +kernel) (by tbr_iter "mem") (by tbr_iter "mems") (by tbr_iter "pk") (by tbr_iter "nd") (fun _ => rfl) (by tbr_iter "mem") (by tbr_iter "mem") rfl says Say.d (nobL a) isNob (by omega) ?xi ?xc ?xe ?xq
      case xi => tbr_iter "dd"; exact ⟨rfl, rfl⟩
      case xc =>
        intro s hs s0 H0 C cl fp Sb
        cases s <;> simp only [Say.d] <;> tbr_iter "dd"
        all_goals exact ⟨by first | (show decide _ = true; decide +kernel) | (show decide _ = false; decide +kernel), rfl⟩
      case xe =>
        intro s hs hp s0 H0 C cl fp Sb
        cases s with
        | nob i =>
          obtain ⟨i0, i1⟩ := ok.ok _ hs
          have g1 := lead_get (a := a) (i := i) (by rw [al, am, l1]) i0 (by rw [am]; exact i1)
          rw [al] at g1
          simp only [Say.d]
          tbr_iter "dd"
          exact ⟨rfl, rfl⟩
        | _ => cases hp
      case xq =>
        intro ns hns hmem
        tbr_iter "dd"
        refine ⟨p, a, _, Mm.put_same, ?_, ?_, ?_, ?_, ?_, rfl, ?_⟩
        · rw [as]; tbr_iter "alk"
        · rw [al]; tbr_iter "alk"
        · tbr_iter "lkn"
        · rw [am, as]; exact ok
        · rw [al, am]; exact l1
        · tbr_iter "dd"
          subst ha
          exact q ⟨m, says, ld, nm, ns⟩ ⟨ok, l1, hld, l2, hnm, hns, sing_of (a := ⟨m, says, ld, nm, ns⟩) hmem⟩ rfl rfl
theorem ok__law_got (T : TopFn K mg "_law_got" (top 40)) (hB : ∀ x ∈ allB, mg x = none) (KR : mg "RoamError" = some (.ref (ca mg "RoamError"))) (KM : mg "Missing" = some (.ref (ca mg "Missing"))) (KN : mg "NothingLeft" = some (.ref (ca mg "NothingLeft"))) (C_law_field : FldQ P W K mg base 1) : FnD P W K mg base 8 "_law_got" ["_law_ask"] [] (spGot P W K mg base 6) :=
  got_ok T (by decide +kernel) (by exact rfl) KR KM KN C_law_field (by omega)
theorem ok__law_same_step (T : TopFn K mg "_law_same" (top 41)) (hB : ∀ x ∈ allB, mg x = none) (n : Nat) (ih : ∀ m, n = m + 1 → FnD P W K mg base (m + 1) "_law_same" ["_law_found", "_law_due"] [] (sp__law_same m)) : FnD P W K mg base (n + 1) "_law_same" ["_law_found", "_law_due"] [] (sp__law_same n) := by
  obtain ⟨gm, fd, F⟩ := T
  refine fnD_of ["_law_found", "_law_due"] ["_law_a", "_law_b"] ["_law_found", "_law_due"] ⟨["_law_found", "_law_due"], ["_law_found", "_law_due"], [], ["isinstance", "list", "len", "all", "zip", "tuple", "bool", "int", "str"], ["isinstance", "list", "len", "all", "zip", "tuple", "bool", "int", "str"]⟩ gm F (by decide +kernel) (bsub hB (by decide +kernel)) kw_nil ?len ?body
  case len => rintro ds M Q E ⟨x, rfl, _⟩; rfl
  case body =>
    rintro X w ds M Q E rfl rfl rfl rfl rfl hN hsc Sx ⟨x, rfl, hx, q⟩ he
    show DS X w (_ :: _) ([("_law_found", 0, (some x)), ("_law_due", 1, (some x))] : Ga) _ _
    cases x
    case ty => exact absurd hx (by simp [D.sm])
    case dK => exact absurd hx (by simp [D.sm])
    case dT => exact absurd hx (by simp [D.sm])
    case obj => exact absurd hx (by simp [D.sm])
    case ptr => exact absurd hx (by simp [D.sm])
    case scr => exact absurd hx (by simp [D.sm])
    case exc => exact absurd hx (by simp [D.sm])
    case fn => exact absurd hx (by simp [D.sm])
    case clo => exact absurd hx (by simp [D.sm])
    case any => exact absurd hx (by simp [D.sm])
    case non => tbr_iter "dd"; exact q
    case bl => tbr_iter "dd"; simpa using q
    case int => tbr_iter "dd"; simpa using q
    case str s =>
      have h1 : D.ok 60 (.str s) = true := ok_str (sm_strok hx).1
      tbr_iter "dd"
      simpa using q
    case lst ds =>
      tbr_iter "dd"
      · obtain ⟨m, rfl⟩ : ∃ m, n = m + 1 := by cases n with | zero => exact absurd hx (by simp [D.sm]) | succ m => exact ⟨m, rfl⟩
        simp only [D.sm, Bool.and_eq_true, decide_eq_true_eq] at hx
        have Cs := ih m rfl
        refine de_lcT Sx hN hsc 2 3 [] ⟨["_law_a", "_law_b"], ["_law_a", "_law_b"], [], ["_law_same"], []⟩ (by decide +kernel) (by tbr_iter "mem") (by tbr_iter "mem") (by decide) (by decide) (by tbr_iter "pk") (by decide) (fun _ _ _ _ _ => rfl) (fun _ _ _ _ _ => rfl) (fun _ _ _ _ _ => rfl) (fun _ => rfl) ?_
        refine di_zip Sx (by tbr_iter "mem") (Sx.bt _ (by tbr_iter "mem")) (by tbr_iter "r") (by tbr_iter "r") ?_
        tbr_iter "dd"
        refine ⟨_, _, .inl rfl, ?_, fun j acc M' => M' = M ∧ acc = List.replicate j (.bl true), ⟨rfl, rfl⟩, ?_, ?_⟩
        · rw [zipD_length, Nat.min_self, sizeLine_eq]; omega
        · rintro j d acc M' hd ⟨rfl, rfl⟩
          rw [zipD_self, List.getElem?_map] at hd
          cases z : ds[j]? with
          | none => rw [z] at hd; cases hd
          | some y =>
            rw [z] at hd
            cases hd
            refine ⟨y, y, rfl, fun s0 H0 C cl fp Sb => ⟨fun _ s1 H1 C1 cl1 fp1 Sb1 => ?_, fun e => by cases e⟩⟩
            refine de_call Sb1 Cs (Nat.le_refl _) (by tbr_iter "mem") (by tbr_iter "r") (by tbr_iter "r") ?_
            tbr_iter "dd"
            refine ⟨y, rfl, D.sms_mem hx.2 (List.mem_of_getElem? z), rfl, ?_⟩
            rw [List.replicate_succ']
        · rintro acc M' ⟨rfl, rfl⟩
          refine ⟨List.replicate (zipD ds ds).length true, by rw [List.map_replicate], ?_⟩
          rw [all_rep]
          tbr_iter "dd"
          exact q
    case tup ds =>
      tbr_iter "dd"
      · obtain ⟨m, rfl⟩ : ∃ m, n = m + 1 := by cases n with | zero => exact absurd hx (by simp [D.sm]) | succ m => exact ⟨m, rfl⟩
        simp only [D.sm, Bool.and_eq_true, decide_eq_true_eq] at hx
        have Cs := ih m rfl
        refine de_lcT Sx hN hsc 2 3 [] ⟨["_law_a", "_law_b"], ["_law_a", "_law_b"], [], ["_law_same"], []⟩ (by decide +kernel) (by tbr_iter "mem") (by tbr_iter "mem") (by decide) (by decide) (by tbr_iter "pk") (by decide) (fun _ _ _ _ _ => rfl) (fun _ _ _ _ _ => rfl) (fun _ _ _ _ _ => rfl) (fun _ => rfl) ?_
        refine di_zip Sx (by tbr_iter "mem") (Sx.bt _ (by tbr_iter "mem")) (by tbr_iter "r") (by tbr_iter "r") ?_
        tbr_iter "dd"
        refine ⟨_, _, .inr rfl, ?_, fun j acc M' => M' = M ∧ acc = List.replicate j (.bl true), ⟨rfl, rfl⟩, ?_, ?_⟩
        · rw [zipD_length, Nat.min_self, sizeLine_eq]; omega
        · rintro j d acc M' hd ⟨rfl, rfl⟩
          rw [zipD_self, List.getElem?_map] at hd
          cases z : ds[j]? with
          | none => rw [z] at hd; cases hd
          | some y =>
            rw [z] at hd
            cases hd
            refine ⟨y, y, rfl, fun s0 H0 C cl fp Sb => ⟨fun _ s1 H1 C1 cl1 fp1 Sb1 => ?_, fun e => by cases e⟩⟩
            refine de_call Sb1 Cs (Nat.le_refl _) (by tbr_iter "mem") (by tbr_iter "r") (by tbr_iter "r") ?_
            tbr_iter "dd"
            refine ⟨y, rfl, D.sms_mem hx.2 (List.mem_of_getElem? z), rfl, ?_⟩
            rw [List.replicate_succ']
        · rintro acc M' ⟨rfl, rfl⟩
          refine ⟨List.replicate (zipD ds ds).length true, by rw [List.map_replicate], ?_⟩
          rw [all_rep]
          tbr_iter "dd"
          exact q
theorem ok__law_same (T : TopFn K mg "_law_same" (top 41)) (hB : ∀ x ∈ allB, mg x = none) : ∀ n, FnD P W K mg base (n + 1) "_law_same" ["_law_found", "_law_due"] [] (sp__law_same n)
  | 0 => ok__law_same_step T hB 0 fun m e => by cases e
  | n + 1 => ok__law_same_step T hB (n + 1) fun m e => by cases e; exact ok__law_same T hB n
theorem ok__law_all (T : TopFn K mg "_law_all" (top 42)) (hB : ∀ x ∈ allB, mg x = none) (C_law_got : FnD P W K mg base 8 "_law_got" ["_law_ask"] [] (spGot P W K mg base 6)) : FnD P W K mg base 9 "_law_all" ["_law_asks"] [] (spAll P W K mg base 6) := by
  obtain ⟨gm, fd, F⟩ := T
  refine fnD_of ["_law_asks"] ["_law_ask"] ["_law_asks"] ⟨["_law_asks"], ["_law_asks"], [], [], []⟩ gm F (by decide +kernel) (bsub hB (by decide +kernel)) ?kb ?len ?body
  case kb => exact kw_nil
  case len => rintro ds M Q E ⟨ls, rfl, hz, hL, hA⟩; rfl
  case body =>
    rintro X w ds M Q E rfl rfl rfl rfl rfl hN hsc Sx ⟨ls, rfl, hz, hL, hA⟩ he
    show DS X w (_ :: _) ([("_law_asks", 0, (some (.lst (ls.map Clo4.d))))] : Ga) _ _
    refine ds_ret ?_
    refine de_lcN Sx hN hsc 1 [] ⟨["_law_ask"], ["_law_ask"], [], ["_law_got"], []⟩ (by decide +kernel) (by tbr_iter "mem") (by tbr_iter "mems") (by tbr_iter "pk") (by tbr_iter "nd") (fun _ => rfl) ?_
    tbr_iter "dd"
    refine ⟨by rw [List.length_map]; exact hz, fun j acc M' => allOk X.K X.mg (fun rs M2 => Q (.lst rs) M2) (ls.drop j) acc M', hA, ?_, ?_⟩
    · intro j d acc M2 hd hI s0 H0 C cl fp Sb
      refine ⟨fun _ s1 H1 C1 cl1 fp1 Sb1 => ?_, fun e => by cases e⟩
      rw [List.getElem?_map] at hd
      obtain ⟨l, hl, rfl⟩ := Option.map_eq_some_iff.mp hd
      have hm := List.mem_of_getElem? hl
      have e : ls.drop j = l :: ls.drop (j + 1) := by
        obtain ⟨hj, rfl⟩ := List.getElem?_eq_some_iff.mp hl
        exact List.drop_eq_getElem_cons hj
      rw [e] at hI
      tbr_iter "dd"
      exact ⟨l.L, l.vs, l.caps, l.S, rfl, hL l hm, hI⟩
    · intro acc M2 hI
      rw [List.length_map, List.drop_length] at hI
      exact hI
theorem ok_law {fd : FuncData} {c0 T0 : Addr} (gm : mg "law" = some (.ref (ca mg "law"))) (F : Fun K "law" "law" (top 43) (ca mg "law") fd) (hc0 : fd.code = .ref c0) (TB0 : LamX.TabB base mg c0 T0) (hB : ∀ x ∈ allB, mg x = none) (KAlbum : ClsD K mg "Album" ["own_many", "own_sayings", "own_ties", "own_leaders", "own_names", "own_single", "own_bars"]) (HInvalidCount : CaughtD K mg "InvalidCount") (HInvalidSaying : CaughtD K mg "InvalidSaying") (HTooMany : CaughtD K mg "TooMany") (VAlbum_MOST : ClsV K mg "Album" "MOST" (.int 24)) (VAlbum_SAYINGS : ClsV K mg "Album" "SAYINGS" (.int 40)) (C_law_bag : FnD P W K mg base 1 "_law_bag" ["_law_script"] [] (sp__law_bag)) (C_law_draw : FnD P W K mg base 1 "_law_draw" ["_law_bag_here", "_law_my_many"] [] (sp__law_draw)) (C_law_pick : FnD P W K mg base 2 "_law_pick" ["_law_bag_here", "_law_some"] [] (sp__law_pick)) (C_law_any : FnD P W K mg base 4 "_law_any" ["_law_bag_here", "_law_most", "_law_size"] [] (sp__law_any)) (C_law_is_saying : FnD P W K mg base 3 "_law_is_saying" ["_law_value"] [] (sp__law_is_saying)) (C_law_same : FnD P W K mg base 9 "_law_same" ["_law_found", "_law_due"] [] (sp__law_same 8)) (C_law_got : ∀ base : Heap, FnD P W K mg base 8 "_law_got" ["_law_ask"] [] (spGot P W K mg base 6)) (C_law_all : ∀ base : Heap, FnD P W K mg base 9 "_law_all" ["_law_asks"] [] (spAll P W K mg base 6)) (CAlbum___init__ : IniD P W K mg base 5 "Album" ["self", "many", "sayings"] [⟨1, ["many"], [0, 2], [.int 0, .tup []]⟩, ⟨2, [], [1], [.int 0, .tup []]⟩, ⟨1, [], [0, 1], [.int 0, .tup []]⟩] (sp_Album___init__)) (CAlbum_many : PrpD P W K mg base 1 "Album" "many" (sp_Album_many)) (CAlbum_sayings : MthD P W K mg base 1 "Album" "sayings" ["self"] [] (sp_Album_sayings)) (CAlbum___len__ : MthD P W K mg base 1 "Album" "__len__" ["self"] [] (sp_Album___len__)) : FnOk P W K mg base (L2.CX P W) 10 (ca mg "law") fd ["_law_script"] (spD K mg (spLawT [(c0, T0, lamQ "law")])) := by
  refine fnOk_ofL ["_law_script", "_law_bag_here", "_law_turn", "_law_spec", "_law_rows", "_law_k", "_law_bad", "_law_due", "_law_told", "_law_odd", "_law_asks"] ["_law_item"] ["_law_script"] ⟨["_law_script", "_law_bag_here", "_law_turn", "_law_spec", "_law_rows", "_law_k", "_law_bad", "_law_due", "_law_told", "_law_odd", "_law_asks"], ["_law_script", "_law_turn", "_law_k", "_law_bad", "_law_due", "_law_told", "_law_asks"], ["_law_bag_here", "_law_spec", "_law_rows", "_law_odd"], ["_law_bag", "range", "_law_any", "list", "_law_draw", "len", "_law_pick", "_law_got", "_law_same", "_law_all", "Album"], ["range", "list", "len", "max", "isinstance", "str"]⟩ F (by decide +kernel) (bsub hB (by decide +kernel)) hc0 TB0 ?len ?body
  case len => rintro ds M Q E ⟨ns, rfl, hn, hT, q⟩; rfl
  case body =>
    rintro X w ds M Q E rfl rfl rfl rfl rfl hN hsc Sx Mk ⟨ns, rfl, hn, hT, q⟩ he
    show DS X w (_ :: _) ([("_law_script", 0, (some (.scr ns))), ("_law_bag_here", 1, none), ("_law_turn", 2, none), ("_law_spec", 3, none), ("_law_rows", 4, none), ("_law_k", 5, none), ("_law_bad", 6, none), ("_law_due", 7, none), ("_law_told", 8, none), ("_law_odd", 9, none), ("_law_asks", 10, none)] : Ga) _ _
    have hT0 : M T0 = some (.tb (lamQ "law")) := hT _ List.mem_cons_self
    clear hT
    have lmo := ListMOn.mk
    tbr_iter "dd"
    rename_i p M0 hb0 kp0 nT hT1
    refine ds_for Sx (fun _ => rfl) ?_
    tbr_iter "dd"
    refine ⟨fun j Γ' M' => (∃ o_2 o_3 o_4 o_5 o_6 o_7 o_8 o_9 o_10 : Option D, Γ' = ([("_law_script", 0, (some (.scr ns))), ("_law_bag_here", 1, (some (.ptr p))), ("_law_turn", 2, o_2), ("_law_spec", 3, o_3), ("_law_rows", 4, o_4), ("_law_k", 5, o_5), ("_law_bad", 6, o_6), ("_law_due", 7, o_7), ("_law_told", 8, o_8), ("_law_odd", 9, o_9), ("_law_asks", 10, o_10)] : Ga)) ∧ BagAt M' p ∧ M' T0 = some (.tb (lamQ "law")), ⟨⟨_, _, _, _, _, _, _, _, _, rfl⟩, hb0, hT1⟩, ?_, ?_⟩
    · rintro j d Γ1 M1 hd ⟨⟨o_2, o_3, o_4, o_5, o_6, o_7, o_8, o_9, o_10, rfl⟩, hb, hT2⟩
      have kp := Keep.refl p M1
      obtain ⟨hj, rfl⟩ := rngD_at0 hd
      tbr_iter "dd"
      rename_i m says M2 ok h2m hm24 hl8 hb2 kp2
      have hT3 := Keep.get kp2 nT hT2
      intro q1 hq1
      have n1 : q1 ≠ p := fun e => by
        obtain ⟨b, hbb⟩ := hb2
        rw [e, hbb] at hq1; cases hq1
      have n2 : T0 ≠ q1 := fun e => by rw [← e, hT3] at hq1; cases hq1
      have hb3 : BagAt (M2.put q1 (.l (says.map Say.d))) p := by
        obtain ⟨b, hbb⟩ := hb2
        exact ⟨b, (Mm.put_ne n1.symm).trans hbb⟩
      have hT4 : (M2.put q1 (.l (says.map Say.d))) T0 = some (.tb (lamQ "law")) := (Mm.put_ne n2).trans hT3
      have hq2 : (M2.put q1 (.l (says.map Say.d))) q1 = some (.l (says.map Say.d)) := Mm.put_same
      generalize M2.put q1 (.l (says.map Say.d)) = M3 at hb3 hT4 hq2 ⊢
      clear kp kp2
      have kp := Keep.refl p M3
      have sv : D.sms 7 (says.map Say.d) = true := by
        refine D.sms_of fun d hd => ?_
        obtain ⟨s, hs, rfl⟩ := List.mem_map.mp hd
        exact say_sm7 (ok24 ok hs)
      have lv : (says.map Say.d).length ≤ 8 := by rw [List.length_map]; omega
      tbr_iter "dd"
      refine ds_for Sx (fun _ => rfl) ?_
      tbr_iter "dd"
      rename_i cnt M4 k0 k1 hb4 kp4
      have hq4 := Keep.get kp4 n1 hq2
      have hT5 := Keep.get kp4 nT hT4
      refine ⟨fun j2 Γ' M' => (∃ o_2 o_5 o_6 o_7 o_8 o_9 o_10 : Option D, Γ' = ([("_law_script", 0, (some (.scr ns))), ("_law_bag_here", 1, (some (.ptr p))), ("_law_turn", 2, o_2), ("_law_spec", 3, (some (.tup [.int m, .lst (says.map Say.d)]))), ("_law_rows", 4, (some (.ptr q1))), ("_law_k", 5, o_5), ("_law_bad", 6, o_6), ("_law_due", 7, o_7), ("_law_told", 8, o_8), ("_law_odd", 9, o_9), ("_law_asks", 10, o_10)] : Ga)) ∧ BagAt M' p ∧ M' T0 = some (.tb (lamQ "law")) ∧ ∃ vs, M' q1 = some (.l vs) ∧ D.sms 7 vs = true ∧ vs.length ≤ 8 + j2, ⟨⟨_, _, _, _, _, _, _, rfl⟩, hb4, hT5, _, hq4, sv, by omega⟩, ?_, ?_⟩
      · rintro j2 d2 Γ2 M5 hd2 ⟨⟨o_2, o_5, o_6, o_7, o_8, o_9, o_10, rfl⟩, hb5, hT6, vs, hq5, sv5, lv5⟩
        clear kp kp4
        have kp := Keep.refl p M5
        obtain ⟨hj2, rfl⟩ := rngD_at0 hd2
        tbr_iter "dd"
        rename_i i M6 i0 i1 hb6 kp6 d M7 mem7 sm7 hb7 kp7
        exact ⟨⟨_, _, _, _, _, _, _, rfl⟩, bag_put hb7 n1, (Mm.put_ne n2).trans (Keep.get kp7 nT hT6), _, Mm.put_same, sms_ins sv5 sm7, by rw [ins_len]; omega⟩
      · rintro Γ2 M5 ⟨⟨o_2, o_5, o_6, o_7, o_8, o_9, o_10, rfl⟩, hb5, hT6, vs, hq5, sv5, lv5⟩
        clear kp kp4
        rw [rngD_length] at lv5
        have lv6 : vs.length ≤ 20 := by omega
        refine ds_frz (by tbr_iter "has") hq5 (by tbr_iter "put") ?_
        simp only [Cell.data]
        have hb6 : BagAt (M5.del q1) p := hb5.del' n1.symm
        have hT7 : (M5.del q1) T0 = some (.tb (lamQ "law")) := by
          unfold Mm.del; rw [if_neg n2]; exact hT6
        generalize M5.del q1 = M6 at hb6 hT7 ⊢
        clear hb hT2 hb2 hT3 hb3 hT4 hq2 hb4 hq4 hT5 hb5 hT6 hq5 hq1 sv lv k0 k1
        have m24 : m ≤ 24 := hm24
        refine ds_lcN Sx hN hsc 5 ["_law_rows", "_law_spec"] ⟨["_law_k"], ["_law_k"], [], ["_law_is_saying", "max"], ["max", "isinstance", "str"]⟩ (by decide +kernel) (by tbr_iter "mem") (by tbr_iter "mems") (by tbr_iter "pk") (by tbr_iter "nd") (by tbr_iter "mem") (by tbr_iter "mem") rfl (by decide +kernel) (fun _ => rfl) ?_
        refine lcN_filter (List.range vs.length) (fun k => .int (k : Int)) (fun k => .int (k : Int)) (fun k => badK m vs k) (by rw [sizeLine_eq, List.length_range]; omega) ?yi ?yc ?ye ?yq
        case yi => tbr_iter "dd"; exact ⟨by simp [rngD], rfl⟩
        case yc =>
          intro k hk s0 H0 C cl fp Sb
          rw [List.mem_range] at hk
          obtain ⟨v, hv⟩ : ∃ v, vs[k]? = some v := ⟨_, List.getElem?_eq_getElem hk⟩
          have hv7 := D.sms_mem sv5 (List.mem_of_getElem? hv)
          cases hS : isSay v with
          | false =>
            tbr_iter "dd"
            all_goals first
              | exact ⟨(badK_0 hv hS).symm, rfl⟩
              | (rename_i hz; rw [hS] at hz; cases hz)
              | skip
          | true =>
            obtain ⟨s, rfl, hs⟩ := say_of hS
            cases s with
            | nob i =>
              simp only [Say.d] at hv hS hv7
              tbr_iter "dd"
              refine de_lcN Sb hN (congrArg (relS _) hsc) 11 [] ⟨["_law_item"], ["_law_item"], [], ["isinstance", "str"], ["isinstance", "str"]⟩ (by decide +kernel) (by tbr_iter "mem") (by tbr_iter "mems") (by tbr_iter "pk") (by tbr_iter "nd") (fun _ => rfl) ?_
              refine lcN_filter ([.int i] : List D) (fun d => d) (fun d => d) notStr (by rw [sizeLine_eq]; simp) ?xi ?xc ?xe ?xq
              case xi => tbr_iter "dd"; exact ⟨by simp, rfl⟩
              case xc =>
                intro d hd s1 H1 C1 cl1 fp1 Sb1
                simp only [List.mem_cons, List.not_mem_nil, or_false] at hd
                subst hd
                all_goals (tbr_iter "dd"; exact ⟨rfl, rfl⟩)
              case xe =>
                intro d hd hp s1 H1 C1 cl1 fp1 Sb1
                tbr_iter "dd"
                exact ⟨rfl, rfl⟩
              case xq =>
                refine ⟨[i], rfl, by simp, fun x hx hle => ?_⟩
                tbr_iter "dd"
                exact ⟨(badK_1 (s := (.nob i)) hv hs hx hle).symm, rfl⟩
            | isn i l =>
              simp only [Say.d] at hv hS hv7
              tbr_iter "dd"
              refine de_lcN Sb hN (congrArg (relS _) hsc) 11 [] ⟨["_law_item"], ["_law_item"], [], ["isinstance", "str"], ["isinstance", "str"]⟩ (by decide +kernel) (by tbr_iter "mem") (by tbr_iter "mems") (by tbr_iter "pk") (by tbr_iter "nd") (fun _ => rfl) ?_
              refine lcN_filter ([.int i, .str (tx l)] : List D) (fun d => d) (fun d => d) notStr (by rw [sizeLine_eq]; simp) ?xi ?xc ?xe ?xq
              case xi => tbr_iter "dd"; exact ⟨by simp, rfl⟩
              case xc =>
                intro d hd s1 H1 C1 cl1 fp1 Sb1
                simp only [List.mem_cons, List.not_mem_nil, or_false] at hd
                rcases hd with rfl | rfl
                all_goals (tbr_iter "dd"; exact ⟨rfl, rfl⟩)
              case xe =>
                intro d hd hp s1 H1 C1 cl1 fp1 Sb1
                tbr_iter "dd"
                exact ⟨rfl, rfl⟩
              case xq =>
                refine ⟨[i], rfl, by simp, fun x hx hle => ?_⟩
                tbr_iter "dd"
                exact ⟨(badK_1 (s := (.isn i l)) hv hs hx hle).symm, rfl⟩
            | sam i i' =>
              simp only [Say.d] at hv hS hv7
              tbr_iter "dd"
              refine de_lcN Sb hN (congrArg (relS _) hsc) 11 [] ⟨["_law_item"], ["_law_item"], [], ["isinstance", "str"], ["isinstance", "str"]⟩ (by decide +kernel) (by tbr_iter "mem") (by tbr_iter "mems") (by tbr_iter "pk") (by tbr_iter "nd") (fun _ => rfl) ?_
              refine lcN_filter ([.int i, .int i'] : List D) (fun d => d) (fun d => d) notStr (by rw [sizeLine_eq]; simp) ?xi ?xc ?xe ?xq
              case xi => tbr_iter "dd"; exact ⟨by simp, rfl⟩
              case xc =>
                intro d hd s1 H1 C1 cl1 fp1 Sb1
                simp only [List.mem_cons, List.not_mem_nil, or_false] at hd
                rcases hd with rfl | rfl
                all_goals (tbr_iter "dd"; exact ⟨rfl, rfl⟩)
              case xe =>
                intro d hd hp s1 H1 C1 cl1 fp1 Sb1
                tbr_iter "dd"
                exact ⟨rfl, rfl⟩
              case xq =>
                refine ⟨[i, i'], rfl, by simp, fun x hx hle => ?_⟩
                tbr_iter "dd"
                exact ⟨(badK_1 (s := (.sam i i')) hv hs hx hle).symm, rfl⟩
            | apa i i' =>
              simp only [Say.d] at hv hS hv7
              tbr_iter "dd"
              refine de_lcN Sb hN (congrArg (relS _) hsc) 11 [] ⟨["_law_item"], ["_law_item"], [], ["isinstance", "str"], ["isinstance", "str"]⟩ (by decide +kernel) (by tbr_iter "mem") (by tbr_iter "mems") (by tbr_iter "pk") (by tbr_iter "nd") (fun _ => rfl) ?_
              refine lcN_filter ([.int i, .int i'] : List D) (fun d => d) (fun d => d) notStr (by rw [sizeLine_eq]; simp) ?xi ?xc ?xe ?xq
              case xi => tbr_iter "dd"; exact ⟨by simp, rfl⟩
              case xc =>
                intro d hd s1 H1 C1 cl1 fp1 Sb1
                simp only [List.mem_cons, List.not_mem_nil, or_false] at hd
                rcases hd with rfl | rfl
                all_goals (tbr_iter "dd"; exact ⟨rfl, rfl⟩)
              case xe =>
                intro d hd hp s1 H1 C1 cl1 fp1 Sb1
                tbr_iter "dd"
                exact ⟨rfl, rfl⟩
              case xq =>
                refine ⟨[i, i'], rfl, by simp, fun x hx hle => ?_⟩
                tbr_iter "dd"
                exact ⟨(badK_1 (s := (.apa i i')) hv hs hx hle).symm, rfl⟩
        case ye =>
          intro k hk hp s0 H0 C cl fp Sb
          tbr_iter "dd"
          exact ⟨rfl, rfl⟩
        case yq =>
          have kp := Keep.refl p M6
          rcases hbd : (List.range vs.length).filter (fun k => badK m vs k) with _ | ⟨kb, rb⟩
          · have hall := bad_nil m24 hbd
            obtain ⟨says2, rfl, hs2⟩ := okVs hall
            have ok2 : SaysOk m says2 := ⟨m24, by rw [List.length_map] at lv6; omega, hs2⟩
            tbr_iter "dd"
            refine lf_ne0 rfl ?_
            simp only [List.map_nil, List.isEmpty_nil, Bool.not_true]
            tbr_iter "dd"
            refine de_gotG Sx Mk C_law_got (by decide) (by tbr_iter "mem") rfl ?_
            tbr_iter "dd"
            apply lam_of ["Album"] ["_law_spec", "_law_rows"]
            · tbr_iter "pkg"
            · tbr_iter "lis"
            intro X2 w2 lin he2
            have DAlbum___init__ := lin.iniD CAlbum___init__; have DKAlbum := lin.clsD KAlbum; have Sx2 := lin.sc
            refine de_freezeK ?_
            tbr_iter "dd"
            rename_i p2 hp2 a A2 e1 e2
            clear he2 lin DAlbum___init__ DKAlbum Sx2 w2 X2
            have smv : D.sm 6 (.lst (says2.map Say.d)) = true := says_lst ok2
            tbr_iter "dd"
            refine lf_same (by rw [e1, e2]) (by tbr_iter "sm") ?_
            tbr_iter "dd"
            rename_i d8 M8 mem8 sm8 hb9 kp9
            have hT9 := Keep.get kp9 nT hT7
            clear kp
            have kp := Keep.refl p M8
            tbr_iter "dd"
            refine de_allG Sx Mk C_law_all (by decide) (by tbr_iter "mem") rfl ?_
            tbr_iter "dd"
            apply lams_of [(["Album"], ["_law_rows", "_law_odd"]), (["Album"], ["_law_odd"]), (["Album", "_law_pick"], ["_law_bag_here", "_law_spec"]), (["len", "Album"], []), (["Album"], []), (["Album"], [])]
            · tbr_iter "lcs"
            · decide
            tbr_iter "alc"
            have DAlbum___init__ := lin.iniD CAlbum___init__; have DKAlbum := lin.clsD KAlbum; have Sx2 := lin.sc
            tbr_iter "dd"
            intro p3 hp3
            refine ⟨p3, d8, .lst (says2.map Say.d), Mm.put_same, rfl, .inr (.inl ⟨sm7 sm8, odd4 mem8, ?_⟩)⟩
            rw [he2]
            tbr_iter "goe"
            obtain ⟨hb10, hT10⟩ := garb (c' := .o "Album" []) hb9 hT9 hp3
            generalize M8.put p3 (.o "Album" []) = M10 at hb10 hT10 ⊢
            clear he2 lin DAlbum___init__ DKAlbum Sx2 w2 X2
            tbr_iter "alc"
            have DAlbum___init__ := lin.iniD CAlbum___init__; have DKAlbum := lin.clsD KAlbum; have Sx2 := lin.sc
            tbr_iter "dd"
            intro p4 hp4
            refine ⟨p4, d8, .tup [], Mm.put_same, rfl, .inr (.inl ⟨sm7 sm8, odd4 mem8, ?_⟩)⟩
            rw [he2]
            tbr_iter "goe"
            obtain ⟨hb11, hT11⟩ := garb (c' := .o "Album" []) hb10 hT10 hp4
            generalize M10.put p4 (.o "Album" []) = M11 at hb11 hT11 ⊢
            clear he2 lin DAlbum___init__ DKAlbum Sx2 w2 X2 kp
            have kp := Keep.refl p M11
            tbr_iter "alc"
            have D_law_pick := lin.fnD C_law_pick; have DAlbum___init__ := lin.iniD CAlbum___init__; have DKAlbum := lin.clsD KAlbum; have Sx2 := lin.sc
            tbr_iter "dd"
            rename_i d9 M12 mem9 sm9 hb12 kp12
            have hT12 := Keep.get kp12 nT hT11
            intro p5 hp5
            refine ⟨p5, .int m, d9, Mm.put_same, rfl, .inr (.inr (.inl ⟨m, m24, rfl, sm7 sm9, isLT_no (not4 mem9), ?_⟩))⟩
            rw [he2]
            tbr_iter "goe"
            obtain ⟨hb13, hT13⟩ := garb (c' := .o "Album" []) hb12 hT12 hp5
            generalize M12.put p5 (.o "Album" []) = M13 at hb13 hT13 ⊢
            clear he2 lin DAlbum___init__ DKAlbum Sx2 w2 X2 kp D_law_pick
            tbr_iter "alc"
            have DAlbum___init__ := lin.iniD CAlbum___init__; have DAlbum___len__ := lin.mthD CAlbum___len__; have DKAlbum := lin.clsD KAlbum; have Sx2 := lin.sc
            have s40 := nob40_ok
            refine de_lenX Sx2 rfl (by tbr_iter "mem") (by tbr_iter "mem") (de_freezeK ?_)
            tbr_iter "dd"
            rename_i p6 hp6 a4 A4 e4 e5
            have l40 : a4.says.length = 40 := by rw [e5]; rfl
            refine ⟨a4, rfl, _, rfl, by omega, by omega, ?_⟩
            rw [l40]
            clear he2 lin DAlbum___init__ DAlbum___len__ DKAlbum Sx2 w2 X2 s40
            tbr_iter "alc"
            have DAlbum___init__ := lin.iniD CAlbum___init__; have DKAlbum := lin.clsD KAlbum; have Sx2 := lin.sc
            tbr_iter "dd"
            intro p7 hp7
            refine ⟨p7, .int 2, _, Mm.put_same, rfl, .inr (.inr (.inr (.inr ⟨2, List.replicate 41 (.tup [.str "nobody", .int 0]), by decide, rfl, rfl, rep_sms, by simp, rep_okV, by simp, ?_⟩)))⟩
            rw [he2]
            tbr_iter "goe"
            obtain ⟨hb14, hT14⟩ := garb (c' := .o "Album" []) hb13 hT13 hp7
            generalize M13.put p7 (.o "Album" []) = M14 at hb14 hT14 ⊢
            clear he2 lin DAlbum___init__ DKAlbum Sx2 w2 X2
            tbr_iter "alc"
            have DAlbum___init__ := lin.iniD CAlbum___init__; have DKAlbum := lin.clsD KAlbum; have Sx2 := lin.sc
            tbr_iter "dd"
            intro p8 hp8
            refine ⟨p8, .int 2, _, Mm.put_same, rfl, .inr (.inr (.inr (.inl ⟨2, List.replicate 41 (.tup [.str "nobody", .int 0]) ++ [.non], 41, .non, by decide, rfl, rfl, rep_non, by simp, rfl, non_okV, rep_tak, ?_⟩)))⟩
            rw [he2]
            tbr_iter "goe"
            obtain ⟨hb15, hT15⟩ := garb (c' := .o "Album" []) hb14 hT14 hp8
            generalize M14.put p8 (.o "Album" []) = M15 at hb15 hT15 ⊢
            clear he2 lin DAlbum___init__ DKAlbum Sx2 w2 X2
            refine allOk_nil ?_
            tbr_iter "dd"
            have sm6d : D.sm 6 d8 = true := by
              have so : D.sms 6 [.non, .int (-1), .int 25, .bl true, .str "3", .tup [.int 3], .int (10 ^ Int.toNat 20)] = true := by tbr_iter "sms"
              exact D.sms_mem so mem8
            refine lf_same (y := .lst [.tup [.str "InvalidCount", d8], .tup [.str "InvalidCount", d8], .tup [.str "InvalidSaying", .int 0], .tup [.str "", .int 40], .tup [.str "TooMany", .int 40], .tup [.str "InvalidSaying", .int 41]]) rfl (by tbr_iter "sm") ?_
            tbr_iter "dd"
            exact ⟨⟨_, _, _, _, _, _, _, _, _, rfl⟩, hb15, hT15⟩
          · obtain ⟨v, hv, nv, hg⟩ := bad_cons m24 hbd
            tbr_iter "dd"
            rw [L3.ints_map]
            refine lf_ne0 oks_ints ?_
            simp only [List.map_cons, List.isEmpty_cons, Bool.not_false]
            tbr_iter "dd"
            refine de_gotG Sx Mk C_law_got (by decide) (by tbr_iter "mem") rfl ?_
            tbr_iter "dd"
            apply lam_of ["Album"] ["_law_spec", "_law_rows"]
            · tbr_iter "pkg"
            · tbr_iter "lis"
            intro X2 w2 lin he2
            have DAlbum___init__ := lin.iniD CAlbum___init__; have DKAlbum := lin.clsD KAlbum; have Sx2 := lin.sc
            tbr_iter "dd"
            intro p2 hp2
            have sv8 : D.sms 8 vs = true := by
              rw [sms_iff] at sv5 ⊢
              exact fun v hv => sm7 (sv5 v hv)
            refine ⟨p2, .int m, .lst vs, Mm.put_same, rfl, .inr (.inr (.inr (.inl ⟨m, vs, kb, v, m24, rfl, rfl, sv8, by omega, hv, nv, hg, ?_⟩)))⟩
            rw [he2]
            tbr_iter "goe"
            have hb8 : BagAt (M6.put p2 (.o "Album" [])) p := bag_put hb6 (fun e => by obtain ⟨b, hbb⟩ := hb6; rw [e, hbb] at hp2; cases hp2)
            have hT8 : (M6.put p2 (.o "Album" [])) T0 = some (.tb (lamQ "law")) := (Mm.put_ne (fun e => by rw [← e, hT7] at hp2; cases hp2)).trans hT7
            generalize M6.put p2 (.o "Album" []) = M7 at hb8 hT8 ⊢
            clear he2 lin DAlbum___init__ DKAlbum Sx2 w2 X2 kp
            have kp := Keep.refl p M7
            tbr_iter "dd"
            rename_i d8 M8 mem8 sm8 hb9 kp9
            have hT9 := Keep.get kp9 nT hT8
            clear kp
            have kp := Keep.refl p M8
            tbr_iter "dd"
            refine de_allG Sx Mk C_law_all (by decide) (by tbr_iter "mem") rfl ?_
            tbr_iter "dd"
            apply lams_of [(["Album"], ["_law_rows", "_law_odd"]), (["Album"], ["_law_odd"]), (["Album", "_law_pick"], ["_law_bag_here", "_law_spec"]), (["len", "Album"], []), (["Album"], []), (["Album"], [])]
            · tbr_iter "lcs"
            · decide
            tbr_iter "alc"
            have DAlbum___init__ := lin.iniD CAlbum___init__; have DKAlbum := lin.clsD KAlbum; have Sx2 := lin.sc
            tbr_iter "dd"
            intro p3 hp3
            refine ⟨p3, d8, .lst vs, Mm.put_same, rfl, .inr (.inl ⟨sm7 sm8, odd4 mem8, ?_⟩)⟩
            rw [he2]
            tbr_iter "goe"
            obtain ⟨hb10, hT10⟩ := garb (c' := .o "Album" []) hb9 hT9 hp3
            generalize M8.put p3 (.o "Album" []) = M10 at hb10 hT10 ⊢
            clear he2 lin DAlbum___init__ DKAlbum Sx2 w2 X2
            tbr_iter "alc"
            have DAlbum___init__ := lin.iniD CAlbum___init__; have DKAlbum := lin.clsD KAlbum; have Sx2 := lin.sc
            tbr_iter "dd"
            intro p4 hp4
            refine ⟨p4, d8, .tup [], Mm.put_same, rfl, .inr (.inl ⟨sm7 sm8, odd4 mem8, ?_⟩)⟩
            rw [he2]
            tbr_iter "goe"
            obtain ⟨hb11, hT11⟩ := garb (c' := .o "Album" []) hb10 hT10 hp4
            generalize M10.put p4 (.o "Album" []) = M11 at hb11 hT11 ⊢
            clear he2 lin DAlbum___init__ DKAlbum Sx2 w2 X2 kp
            have kp := Keep.refl p M11
            tbr_iter "alc"
            have D_law_pick := lin.fnD C_law_pick; have DAlbum___init__ := lin.iniD CAlbum___init__; have DKAlbum := lin.clsD KAlbum; have Sx2 := lin.sc
            tbr_iter "dd"
            rename_i d9 M12 mem9 sm9 hb12 kp12
            have hT12 := Keep.get kp12 nT hT11
            intro p5 hp5
            refine ⟨p5, .int m, d9, Mm.put_same, rfl, .inr (.inr (.inl ⟨m, m24, rfl, sm7 sm9, isLT_no (not4 mem9), ?_⟩))⟩
            rw [he2]
            tbr_iter "goe"
            obtain ⟨hb13, hT13⟩ := garb (c' := .o "Album" []) hb12 hT12 hp5
            generalize M12.put p5 (.o "Album" []) = M13 at hb13 hT13 ⊢
            clear he2 lin DAlbum___init__ DKAlbum Sx2 w2 X2 kp D_law_pick
            tbr_iter "alc"
            have DAlbum___init__ := lin.iniD CAlbum___init__; have DAlbum___len__ := lin.mthD CAlbum___len__; have DKAlbum := lin.clsD KAlbum; have Sx2 := lin.sc
            have s40 := nob40_ok
            refine de_lenX Sx2 rfl (by tbr_iter "mem") (by tbr_iter "mem") (de_freezeK ?_)
            tbr_iter "dd"
            rename_i p6 hp6 a4 A4 e4 e5
            have l40 : a4.says.length = 40 := by rw [e5]; rfl
            refine ⟨a4, rfl, _, rfl, by omega, by omega, ?_⟩
            rw [l40]
            clear he2 lin DAlbum___init__ DAlbum___len__ DKAlbum Sx2 w2 X2 s40
            tbr_iter "alc"
            have DAlbum___init__ := lin.iniD CAlbum___init__; have DKAlbum := lin.clsD KAlbum; have Sx2 := lin.sc
            tbr_iter "dd"
            intro p7 hp7
            refine ⟨p7, .int 2, _, Mm.put_same, rfl, .inr (.inr (.inr (.inr ⟨2, List.replicate 41 (.tup [.str "nobody", .int 0]), by decide, rfl, rfl, rep_sms, by simp, rep_okV, by simp, ?_⟩)))⟩
            rw [he2]
            tbr_iter "goe"
            obtain ⟨hb14, hT14⟩ := garb (c' := .o "Album" []) hb13 hT13 hp7
            generalize M13.put p7 (.o "Album" []) = M14 at hb14 hT14 ⊢
            clear he2 lin DAlbum___init__ DKAlbum Sx2 w2 X2
            tbr_iter "alc"
            have DAlbum___init__ := lin.iniD CAlbum___init__; have DKAlbum := lin.clsD KAlbum; have Sx2 := lin.sc
            tbr_iter "dd"
            intro p8 hp8
            refine ⟨p8, .int 2, _, Mm.put_same, rfl, .inr (.inr (.inr (.inl ⟨2, List.replicate 41 (.tup [.str "nobody", .int 0]) ++ [.non], 41, .non, by decide, rfl, rfl, rep_non, by simp, rfl, non_okV, rep_tak, ?_⟩)))⟩
            rw [he2]
            tbr_iter "goe"
            obtain ⟨hb15, hT15⟩ := garb (c' := .o "Album" []) hb14 hT14 hp8
            generalize M14.put p8 (.o "Album" []) = M15 at hb15 hT15 ⊢
            clear he2 lin DAlbum___init__ DKAlbum Sx2 w2 X2
            refine allOk_nil ?_
            tbr_iter "dd"
            have sm6d : D.sm 6 d8 = true := by
              have so : D.sms 6 [.non, .int (-1), .int 25, .bl true, .str "3", .tup [.int 3], .int (10 ^ Int.toNat 20)] = true := by tbr_iter "sms"
              exact D.sms_mem so mem8
            refine lf_same (y := .lst [.tup [.str "InvalidCount", d8], .tup [.str "InvalidCount", d8], .tup [.str "InvalidSaying", .int 0], .tup [.str "", .int 40], .tup [.str "TooMany", .int 40], .tup [.str "InvalidSaying", .int 41]]) rfl (by tbr_iter "sm") ?_
            tbr_iter "dd"
            exact ⟨⟨_, _, _, _, _, _, _, _, _, rfl⟩, hb15, hT15⟩
    · rintro Γ1 M1 ⟨⟨o_2, o_3, o_4, o_5, o_6, o_7, o_8, o_9, o_10, rfl⟩, hb, hT2⟩
      have s24 : SaysOk 24 [] := ⟨by decide, by decide, by simp⟩
      tbr_iter "dd"
      rename_i x1 y1 a1 A1 m1 e1
      clear s24
      have s0 : SaysOk 0 [] := ⟨by decide, by decide, by simp⟩
      tbr_iter "dd"
      rename_i x2 y2 a2 A2 m2 e2 x3 y3 a3 A3 m3 e3
      refine lf_same (by rw [m1, e2, m3]; rfl) (by tbr_iter "sm") ?_
      tbr_iter "dd"
      exact q _
end
end T
namespace T
set_option maxHeartbeats 8000000
theorem fin {P : Program} {W : World} {K : PySem.W.Frag} {mg : Str → Option Value} {base : Heap} (hB : ∀ x ∈ allB, mg x = none)(Tis_name : TopFn K mg "is_name" (top 14)) (Tis_number : TopFn K mg "is_number" (top 15)) (Tis_list : TopFn K mg "is_list" (top 16)) (Tpictures_of : TopFn K mg "pictures_of" (top 21)) (Tis_tie : TopFn K mg "is_tie" (top 22)) (TAlbum_said_bars : TopM K mg "Album" "said_bars" "Album.said_bars" (mst 27 3)) (TAlbum_many : TopP K mg "Album" "many" "Album.many" (mst 27 4)) (TAlbum_sayings : TopM K mg "Album" "sayings" "Album.sayings" (mst 27 6)) (TAlbum___len__ : TopM K mg "Album" "__len__" "Album.__len__" (mst 27 22)) (T_law_bag : TopFn K mg "_law_bag" (top 30)) (T_law_draw : TopFn K mg "_law_draw" (top 31)) (T_law_letters : TopFn K mg "_law_letters" (top 33)) (T_law_is_number : TopFn K mg "_law_is_number" (top 36)) (T_law_field : TopFn K mg "_law_field" (top 39)) (Tis_picture : TopFn K mg "is_picture" (top 17)) (Tclosed : TopFn K mg "closed" (top 26)) (T_law_pick : TopFn K mg "_law_pick" (top 32)) (T_law_is_name : TopFn K mg "_law_is_name" (top 37)) (Tis_saying : TopFn K mg "is_saying" (top 18)) (T_law_names : TopFn K mg "_law_names" (top 34)) (T_law_is_saying : TopFn K mg "_law_is_saying" (top 38)) (Tcheck_sayings : TopFn K mg "check_sayings" (top 25)) (T_law_any : TopFn K mg "_law_any" (top 35)) (TAlbum___init__ : TopIV K mg "Album" "Album.__init__" (mst 27 2) [.int 0, .tup []]) (T_law_got : TopFn K mg "_law_got" (top 40)) (T_law_same : TopFn K mg "_law_same" (top 41)) (T_law_all : TopFn K mg "_law_all" (top 42)) (GLETTERS : Gc mg "LETTERS" (.str abc)) (GMOST_PICTURES : Gc mg "MOST_PICTURES" (.int 24)) (GMOST_SAYINGS : Gc mg "MOST_SAYINGS" (.int 40)) (KAlbum : ClsD K mg "Album" ["own_many", "own_sayings", "own_ties", "own_leaders", "own_names", "own_single", "own_bars"]) (EInvalidSaying : ∀ base : Heap, ErrD P W K mg base 1 "InvalidSaying" 1 [("at", .inl 0), ("code", .inr "InvalidSaying")]) (EInvalidCount : ∀ base : Heap, ErrD P W K mg base 1 "InvalidCount" 1 [("given", .inl 0), ("code", .inr "InvalidCount")]) (ETooMany : ∀ base : Heap, ErrD P W K mg base 1 "TooMany" 1 [("most", .inl 0), ("code", .inr "TooMany")]) (HInvalidCount : CaughtD K mg "InvalidCount") (HInvalidSaying : CaughtD K mg "InvalidSaying") (HTooMany : CaughtD K mg "TooMany") (VAlbum_MOST : ClsV K mg "Album" "MOST" (.int 24)) (VAlbum_SAYINGS : ClsV K mg "Album" "SAYINGS" (.int 40)) (KRoamError : mg "RoamError" = some (.ref (ca mg "RoamError"))) (KMissing : mg "Missing" = some (.ref (ca mg "Missing"))) (KNothingLeft : mg "NothingLeft" = some (.ref (ca mg "NothingLeft"))) {c0 T0 : Addr} {fd : FuncData} (gm : mg "law" = some (.ref (ca mg "law"))) (F : Fun K "law" "law" (top 43) (ca mg "law") fd) (hc0 : fd.code = .ref c0) (TB0 : LamX.TabB base mg c0 T0) : FnOk P W K mg base (L2.CX P W) 10 (ca mg "law") fd ["_law_script"] (spD K mg (spLawT [(c0, T0, lamQ "law")])) := by
  have Cis_name : FnD P W K mg base 1 "is_name" ["value"] [] (sp_is_name) := ok_is_name Tis_name hB GLETTERS
  have Cis_number : FnD P W K mg base 1 "is_number" ["value", "low", "high"] [] (sp_is_number) := ok_is_number Tis_number hB 
  have Cis_list : FnD P W K mg base 1 "is_list" ["value"] [] (sp_is_list) := ok_is_list Tis_list hB 
  have Cpictures_of : FnD P W K mg base 1 "pictures_of" ["saying"] [] (sp_pictures_of) := ok_pictures_of Tpictures_of hB 
  have Cis_tie : FnD P W K mg base 1 "is_tie" ["saying"] [] (sp_is_tie) := ok_is_tie Tis_tie hB 
  have CAlbum_said_bars : MthD P W K mg base 1 "Album" "said_bars" ["self"] [] (sp_Album_said_bars) := ok_Album_said_bars TAlbum_said_bars hB KAlbum
  have CAlbum_many : PrpD P W K mg base 1 "Album" "many" (sp_Album_many) := ok_Album_many TAlbum_many hB KAlbum
  have CAlbum_sayings : MthD P W K mg base 1 "Album" "sayings" ["self"] [] (sp_Album_sayings) := ok_Album_sayings TAlbum_sayings hB KAlbum
  have CAlbum___len__ : MthD P W K mg base 1 "Album" "__len__" ["self"] [] (sp_Album___len__) := ok_Album___len__ TAlbum___len__ hB KAlbum
  have C_law_bag : FnD P W K mg base 1 "_law_bag" ["_law_script"] [] (sp__law_bag) := ok__law_bag T_law_bag hB 
  have C_law_draw : FnD P W K mg base 1 "_law_draw" ["_law_bag_here", "_law_my_many"] [] (sp__law_draw) := ok__law_draw T_law_draw hB 
  have C_law_letters : FnD P W K mg base 1 "_law_letters" [] [] (sp__law_letters) := ok__law_letters T_law_letters hB 
  have C_law_is_number : FnD P W K mg base 1 "_law_is_number" ["_law_value", "_law_low", "_law_high"] [] (sp__law_is_number) := ok__law_is_number T_law_is_number hB 
  have C_law_field : ∀ base : Heap, FldQ P W K mg base 1 := fun base => ok__law_field T_law_field hB 
  have Cis_picture : FnD P W K mg base 2 "is_picture" ["value"] [] (sp_is_picture) := ok_is_picture Tis_picture hB GMOST_PICTURES Cis_number
  have Cclosed : FnD P W K mg base 2 "closed" ["many", "sayings"] [] (sp_closed) := ok_closed Tclosed hB Cis_tie
  have C_law_pick : FnD P W K mg base 2 "_law_pick" ["_law_bag_here", "_law_some"] [] (sp__law_pick) := ok__law_pick T_law_pick hB C_law_draw
  have C_law_is_name : FnD P W K mg base 2 "_law_is_name" ["_law_value"] [] (sp__law_is_name) := ok__law_is_name T_law_is_name hB C_law_letters
  have Cis_saying : FnD P W K mg base 3 "is_saying" ["value"] [] (sp_is_saying) := ok_is_saying Tis_saying hB Cis_picture Cis_name
  have C_law_names : FnD P W K mg base 3 "_law_names" ["_law_bag_here", "_law_my_many"] [] (sp__law_names) := ok__law_names T_law_names hB C_law_draw C_law_pick C_law_letters
  have C_law_is_saying : FnD P W K mg base 3 "_law_is_saying" ["_law_value"] [] (sp__law_is_saying) := ok__law_is_saying T_law_is_saying hB C_law_is_number C_law_is_name
  have Ccheck_sayings : FnD P W K mg base 4 "check_sayings" ["many", "sayings"] [] (sp_check_sayings) := ok_check_sayings Tcheck_sayings hB (EInvalidSaying base) Cis_saying Cpictures_of
  have C_law_any : FnD P W K mg base 4 "_law_any" ["_law_bag_here", "_law_most", "_law_size"] [] (sp__law_any) := ok__law_any T_law_any hB C_law_draw C_law_pick C_law_names
  have CAlbum___init__ : IniD P W K mg base 5 "Album" ["self", "many", "sayings"] [⟨1, ["many"], [0, 2], [.int 0, .tup []]⟩, ⟨2, [], [1], [.int 0, .tup []]⟩, ⟨1, [], [0, 1], [.int 0, .tup []]⟩] (sp_Album___init__) := ok_Album___init__ TAlbum___init__ hB GMOST_PICTURES GMOST_SAYINGS KAlbum (EInvalidCount base) (EInvalidSaying base) (ETooMany base) Cis_number Cis_list Ccheck_sayings Cclosed CAlbum_said_bars
  have C_law_got : ∀ base : Heap, FnD P W K mg base 8 "_law_got" ["_law_ask"] [] (spGot P W K mg base 6) := fun base => ok__law_got T_law_got hB KRoamError KMissing KNothingLeft (C_law_field base)
  have C_law_same : FnD P W K mg base 9 "_law_same" ["_law_found", "_law_due"] [] (sp__law_same 8) := ok__law_same T_law_same hB 8
  have C_law_all : ∀ base : Heap, FnD P W K mg base 9 "_law_all" ["_law_asks"] [] (spAll P W K mg base 6) := fun base => ok__law_all T_law_all hB (C_law_got base)
  exact ok_law gm F hc0 TB0 hB KAlbum HInvalidCount HInvalidSaying HTooMany VAlbum_MOST VAlbum_SAYINGS C_law_bag C_law_draw C_law_pick C_law_any C_law_is_saying C_law_same C_law_got C_law_all CAlbum___init__ CAlbum_many CAlbum_sayings CAlbum___len__
theorem fin_mk {P : Program} {W : World} {K : PySem.W.Frag} {mg : Str → Option Value} {h : Heap} {gt0 gt1 gt2 eInvalidSaying_tf eInvalidCount_tf eTooMany_tf vt_Album_MOST vt_Album_SAYINGS dt23_0 : Tok} {C0 Y0 Y1 Y2 Y3 eInvalidSaying_N eInvalidSaying_fI eInvalidSaying_cda eInvalidSaying_cc eInvalidSaying_Dd Y4 eInvalidCount_N eInvalidCount_fI eInvalidCount_cda eInvalidCount_cc eInvalidCount_Dd Y5 eTooMany_N eTooMany_fI eTooMany_cda eTooMany_cc eTooMany_Dd f0 f1 f2 f3 f4 f5 f6 p6 f7 f8 f9 f10 f11 f12 f13 f14 f15 f16 f17 f18 f19 f20 f21 f22 f23 T23 E23_1 f24 f25 f26 f27 cl0 Pt : Addr} {eInvalidSaying_nm eInvalidSaying_q eInvalidSaying_qual eInvalidSaying_file eInvalidCount_nm eInvalidCount_q eInvalidCount_qual eInvalidCount_file eTooMany_nm eTooMany_q eTooMany_qual eTooMany_file : Str} {eInvalidSaying_bs eInvalidSaying_bm eInvalidSaying_sub eInvalidCount_bs eInvalidCount_bm eInvalidCount_sub eTooMany_bs eTooMany_bm eTooMany_sub rs6 : List Value} {eInvalidSaying_sn eInvalidCount_sn eTooMany_sn : List Str} {eInvalidSaying_ab eInvalidCount_ab eTooMany_ab : Bool} {eInvalidSaying_col eInvalidCount_col eTooMany_col : Option Bool} {eInvalidSaying_dd eInvalidSaying_od eInvalidSaying_an eInvalidSaying_cld eInvalidSaying_cdd eInvalidCount_dd eInvalidCount_od eInvalidCount_an eInvalidCount_cld eInvalidCount_cdd eTooMany_dd eTooMany_od eTooMany_an eTooMany_cld eTooMany_cdd od0 an0 od1 an1 od2 an2 od3 an3 od4 an4 od5 an5 od6 an6 od7 an7 od8 an8 od9 an9 od10 an10 od11 an11 od12 an12 od13 an13 od14 an14 od15 an15 od16 an16 od17 an17 od18 an18 od19 an19 od20 an20 od21 an21 od22 an22 od23 an23 td23 ed23_1 od24 an24 od25 an25 od26 an26 od27 an27 tod : Option Addr} {eInvalidSaying_k0 eInvalidSaying_k1 eInvalidSaying_k2 eInvalidSaying_k3 eInvalidSaying_k5 eInvalidCount_k0 eInvalidCount_k1 eInvalidCount_k2 eInvalidCount_k3 eInvalidCount_k5 eTooMany_k0 eTooMany_k1 eTooMany_k2 eTooMany_k3 eTooMany_k5 : Option Value} {eInvalidSaying_oc eInvalidSaying_kV eInvalidSaying_dc eInvalidSaying_pm eInvalidSaying_ct eInvalidSaying_cl eInvalidSaying_ccl eInvalidCount_oc eInvalidCount_kV eInvalidCount_dc eInvalidCount_pm eInvalidCount_ct eInvalidCount_cl eInvalidCount_ccl eTooMany_oc eTooMany_kV eTooMany_dc eTooMany_pm eTooMany_ct eTooMany_cl eTooMany_ccl oc0 kV0 dc0 pm0 cd0 ct0 oc1 kV1 dc1 pm1 cd1 ct1 oc2 kV2 dc2 pm2 cd2 ct2 oc3 kV3 dc3 pm3 cd3 ct3 oc4 kV4 dc4 pm4 cd4 ct4 oc5 kV5 dc5 pm5 cd5 ct5 oc6 kV6 dc6 pm6 cd6 ct6 oc7 kV7 dc7 pm7 cd7 ct7 oc8 kV8 dc8 pm8 cd8 ct8 oc9 kV9 dc9 pm9 cd9 ct9 oc10 kV10 dc10 pm10 cd10 ct10 oc11 kV11 dc11 pm11 cd11 ct11 oc12 kV12 dc12 pm12 cd12 ct12 oc13 kV13 dc13 pm13 cd13 ct13 oc14 kV14 dc14 pm14 cd14 ct14 oc15 kV15 dc15 pm15 cd15 ct15 oc16 kV16 dc16 pm16 cd16 ct16 oc17 kV17 dc17 pm17 cd17 ct17 oc18 kV18 dc18 pm18 cd18 ct18 oc19 kV19 dc19 pm19 cd19 ct19 oc20 kV20 dc20 pm20 cd20 ct20 oc21 kV21 dc21 pm21 cd21 ct21 oc22 kV22 dc22 pm22 cd22 ct22 oc23 kV23 dc23 pm23 cd23 ct23 oc24 kV24 dc24 pm24 cd24 ct24 oc25 kV25 dc25 pm25 cd25 ct25 oc26 kV26 dc26 pm26 cd26 ct26 oc27 kV27 dc27 pm27 ct27 tcl : Value} {eInvalidSaying_cd eInvalidCount_cd eTooMany_cd : ClassData} {eInvalidSaying_osl eInvalidSaying_csl eInvalidSaying_ccs eInvalidCount_osl eInvalidCount_csl eInvalidCount_ccs eTooMany_osl eTooMany_csl eTooMany_ccs sl0 sl1 sl2 sl3 sl4 sl5 sl6 sl7 sl8 sl9 sl10 sl11 sl12 sl13 sl14 sl15 sl16 sl17 sl18 sl19 sl20 sl21 sl22 sl23 ts23 es23_1 sl24 sl25 sl26 sl27 tsl : Array (Option Value)} {eInvalidSaying_vs eInvalidCount_vs eTooMany_vs tvs : Array Value} {nn23 en23_1 : Nat} (X : K.In h) (G : h.Ns mainGlobals mg)
    (z0 : PySem.W.nsIn K mainGlobals "super" = some none)
    (z1 : PySem.W.nsIn K mainGlobals "isinstance" = some none)
    (z2 : PySem.W.nsIn K mainGlobals "str" = some none)
    (z3 : PySem.W.nsIn K mainGlobals "len" = some none)
    (z4 : PySem.W.nsIn K mainGlobals "all" = some none)
    (z5 : PySem.W.nsIn K mainGlobals "int" = some none)
    (z6 : PySem.W.nsIn K mainGlobals "bool" = some none)
    (z7 : PySem.W.nsIn K mainGlobals "list" = some none)
    (z8 : PySem.W.nsIn K mainGlobals "tuple" = some none)
    (z9 : PySem.W.nsIn K mainGlobals "enumerate" = some none)
    (z10 : PySem.W.nsIn K mainGlobals "range" = some none)
    (z11 : PySem.W.nsIn K mainGlobals "min" = some none)
    (z12 : PySem.W.nsIn K mainGlobals "sorted" = some none)
    (z13 : PySem.W.nsIn K mainGlobals "abs" = some none)
    (z14 : PySem.W.nsIn K mainGlobals "zip" = some none)
    (z15 : PySem.W.nsIn K mainGlobals "max" = some none)
    (g0 : PySem.W.nsIn K mainGlobals "LETTERS" = some (some (.str "abcdefghijklmnopqrstuvwxyz" gt0)))
    (g1 : PySem.W.nsIn K mainGlobals "MOST_PICTURES" = some (some (.int 24 gt1)))
    (g2 : PySem.W.nsIn K mainGlobals "MOST_SAYINGS" = some (some (.int 40 gt2)))
    (ac0 : PySem.W.nsIn K mainGlobals "Album" = some (some (.ref C0)))
    (pg0 : PySem.W.plainGet K C0 Str.empty = true)
    (hd0 : PySem.W.hasDictIn K C0 = true)
    (po0 : PySem.W.plainOver K C0 = true)
    (sa0 : PySem.W.findIn K (.ref C0) "__setattr__" = some (some (.builtin "object.__setattr__")))
    (nf0_0 : PySem.W.findIn K (.ref C0) "own_many" = some none)
    (nf0_1 : PySem.W.findIn K (.ref C0) "own_sayings" = some none)
    (nf0_2 : PySem.W.findIn K (.ref C0) "own_ties" = some none)
    (nf0_3 : PySem.W.findIn K (.ref C0) "own_leaders" = some none)
    (nf0_4 : PySem.W.findIn K (.ref C0) "own_names" = some none)
    (nf0_5 : PySem.W.findIn K (.ref C0) "own_single" = some none)
    (nf0_6 : PySem.W.findIn K (.ref C0) "own_bars" = some none)
    (ay0 : PySem.W.nsIn K mainGlobals "RoamError" = some (some (.ref Y0)))
    (ay1 : PySem.W.nsIn K mainGlobals "Missing" = some (some (.ref Y1)))
    (ay2 : PySem.W.nsIn K mainGlobals "NothingLeft" = some (some (.ref Y2)))
    (esup : PySem.W.nsIn K mainGlobals "super" = some none)
    (eopq : PySem.W.nsIn K cStatics "thirdparty.any" = some none)
    (enon : (P.main.scope.names.lookup ("super" : Str)).isSome = false)
    (ay3 : PySem.W.nsIn K mainGlobals "InvalidSaying" = some (some (.ref Y3)))
    (eInvalidSaying_exC : PySem.W.subIn K (.ref Y3) (.type "BaseException") = some true)
    (eInvalidSaying_nf_at : PySem.W.findIn K (.ref Y3) "at" = some none)
    (eInvalidSaying_nf_code : PySem.W.findIn K (.ref Y3) "code" = some none)
    (eInvalidSaying_nf_given : PySem.W.findIn K (.ref Y3) "given" = some none)
    (eInvalidSaying_nf_name : PySem.W.findIn K (.ref Y3) "name" = some none)
    (eInvalidSaying_nf_line : PySem.W.findIn K (.ref Y3) "line" = some none)
    (eInvalidSaying_nf_limit : PySem.W.findIn K (.ref Y3) "limit" = some none)
    (eInvalidSaying_nf_most : PySem.W.findIn K (.ref Y3) "most" = some none)
    (eInvalidSaying_lC : K.lookup Y3 = some (PySem.excClassObj eInvalidSaying_nm eInvalidSaying_q Y3 eInvalidSaying_N eInvalidSaying_bs eInvalidSaying_bm true eInvalidSaying_sn eInvalidSaying_sub eInvalidSaying_ab eInvalidSaying_col eInvalidSaying_dd eInvalidSaying_k0 eInvalidSaying_k1 eInvalidSaying_k2 eInvalidSaying_k3 eInvalidSaying_k5 "ValueError.__new__"))
    (eInvalidSaying_rv : PySem.HandSPX.refsVE eInvalidSaying_bm = true)
    (eInvalidSaying_sa : PySem.W.findIn K (.ref Y3) "__setattr__" = some (some (.builtin "object.__setattr__")))
    (eInvalidSaying_ty : PySem.W.typeIn K (.ref Y3) = some (.type "type"))
    (eInvalidSaying_kp : PySem.W.keepIn K (.ref Y3) = true)
    (eInvalidSaying_hi : PySem.W.findIn K (.ref Y3) "__init__" = some (some (.ref eInvalidSaying_fI)))
    (eInvalidSaying_ti : PySem.W.typeIn K (.ref eInvalidSaying_fI) = some (.type "function"))
    (eInvalidSaying_lf : K.lookup eInvalidSaying_fI = some ⟨eInvalidSaying_oc, eInvalidSaying_od, .func (PySem.W.ksFn "__init__" eInvalidSaying_qual (defArgs (mst 5 0)) (defBody (mst 5 0)) (defScope (mst 5 0)) .none eInvalidSaying_kV eInvalidSaying_dc eInvalidSaying_pm eInvalidSaying_an (.ref eInvalidSaying_cda) eInvalidSaying_ct eInvalidSaying_cc), eInvalidSaying_osl⟩)
    (eInvalidSaying_cdi : PySem.W.codeIn K (.ref eInvalidSaying_cda) eInvalidSaying_qual = true)
    (eInvalidSaying_cel : K.lookup eInvalidSaying_cc = some ⟨eInvalidSaying_cl, eInvalidSaying_cld, .cell (some (.ref eInvalidSaying_Dd)), eInvalidSaying_csl⟩)
    (eInvalidSaying_cod : K.lookup eInvalidSaying_cda = some ⟨eInvalidSaying_ccl, eInvalidSaying_cdd, .fields eInvalidSaying_vs, eInvalidSaying_ccs⟩)
    (eInvalidSaying_fil : eInvalidSaying_vs[2]? = some (.str eInvalidSaying_file eInvalidSaying_tf))
    (eInvalidSaying_fe : ((P.main.file : Str) == eInvalidSaying_file) = true)
    (eInvalidSaying_cD : PySem.W.clsIn K eInvalidSaying_Dd = some eInvalidSaying_cd)
    (eInvalidSaying_mro : PySem.W.mroIn K Y3 (.ref eInvalidSaying_Dd) = some true)
    (eInvalidSaying_up : PySem.W.ks_superIn K Y3 eInvalidSaying_Dd "__init__" = some (some (.builtin "ValueError.__init__")))
    (eInvalidSaying_sVE : PySem.W.subIn K (.ref Y3) (.type "ValueError") = some true)
    (eInvalidSaying_ga : PySem.W.findIn K (.ref Y3) "__getattribute__" = some (some (.builtin "BaseException.__getattribute__")))
    (eInvalidSaying_gg : PySem.W.findIn K (.ref Y3) "__getattr__" = some none)
    (eInvalidSaying_hd : PySem.W.hasDictIn K Y3 = true)
    (eInvalidSaying_xm : PySem.W.exmAny K (.ref Y3) [.ref Y0, .ref Y1, .ref Y2] = some true)
    (ay4 : PySem.W.nsIn K mainGlobals "InvalidCount" = some (some (.ref Y4)))
    (eInvalidCount_exC : PySem.W.subIn K (.ref Y4) (.type "BaseException") = some true)
    (eInvalidCount_nf_given : PySem.W.findIn K (.ref Y4) "given" = some none)
    (eInvalidCount_nf_code : PySem.W.findIn K (.ref Y4) "code" = some none)
    (eInvalidCount_nf_name : PySem.W.findIn K (.ref Y4) "name" = some none)
    (eInvalidCount_nf_at : PySem.W.findIn K (.ref Y4) "at" = some none)
    (eInvalidCount_nf_line : PySem.W.findIn K (.ref Y4) "line" = some none)
    (eInvalidCount_nf_limit : PySem.W.findIn K (.ref Y4) "limit" = some none)
    (eInvalidCount_nf_most : PySem.W.findIn K (.ref Y4) "most" = some none)
    (eInvalidCount_lC : K.lookup Y4 = some (PySem.excClassObj eInvalidCount_nm eInvalidCount_q Y4 eInvalidCount_N eInvalidCount_bs eInvalidCount_bm true eInvalidCount_sn eInvalidCount_sub eInvalidCount_ab eInvalidCount_col eInvalidCount_dd eInvalidCount_k0 eInvalidCount_k1 eInvalidCount_k2 eInvalidCount_k3 eInvalidCount_k5 "ValueError.__new__"))
    (eInvalidCount_rv : PySem.HandSPX.refsVE eInvalidCount_bm = true)
    (eInvalidCount_sa : PySem.W.findIn K (.ref Y4) "__setattr__" = some (some (.builtin "object.__setattr__")))
    (eInvalidCount_ty : PySem.W.typeIn K (.ref Y4) = some (.type "type"))
    (eInvalidCount_kp : PySem.W.keepIn K (.ref Y4) = true)
    (eInvalidCount_hi : PySem.W.findIn K (.ref Y4) "__init__" = some (some (.ref eInvalidCount_fI)))
    (eInvalidCount_ti : PySem.W.typeIn K (.ref eInvalidCount_fI) = some (.type "function"))
    (eInvalidCount_lf : K.lookup eInvalidCount_fI = some ⟨eInvalidCount_oc, eInvalidCount_od, .func (PySem.W.ksFn "__init__" eInvalidCount_qual (defArgs (mst 4 0)) (defBody (mst 4 0)) (defScope (mst 4 0)) .none eInvalidCount_kV eInvalidCount_dc eInvalidCount_pm eInvalidCount_an (.ref eInvalidCount_cda) eInvalidCount_ct eInvalidCount_cc), eInvalidCount_osl⟩)
    (eInvalidCount_cdi : PySem.W.codeIn K (.ref eInvalidCount_cda) eInvalidCount_qual = true)
    (eInvalidCount_cel : K.lookup eInvalidCount_cc = some ⟨eInvalidCount_cl, eInvalidCount_cld, .cell (some (.ref eInvalidCount_Dd)), eInvalidCount_csl⟩)
    (eInvalidCount_cod : K.lookup eInvalidCount_cda = some ⟨eInvalidCount_ccl, eInvalidCount_cdd, .fields eInvalidCount_vs, eInvalidCount_ccs⟩)
    (eInvalidCount_fil : eInvalidCount_vs[2]? = some (.str eInvalidCount_file eInvalidCount_tf))
    (eInvalidCount_fe : ((P.main.file : Str) == eInvalidCount_file) = true)
    (eInvalidCount_cD : PySem.W.clsIn K eInvalidCount_Dd = some eInvalidCount_cd)
    (eInvalidCount_mro : PySem.W.mroIn K Y4 (.ref eInvalidCount_Dd) = some true)
    (eInvalidCount_up : PySem.W.ks_superIn K Y4 eInvalidCount_Dd "__init__" = some (some (.builtin "ValueError.__init__")))
    (eInvalidCount_sVE : PySem.W.subIn K (.ref Y4) (.type "ValueError") = some true)
    (eInvalidCount_ga : PySem.W.findIn K (.ref Y4) "__getattribute__" = some (some (.builtin "BaseException.__getattribute__")))
    (eInvalidCount_gg : PySem.W.findIn K (.ref Y4) "__getattr__" = some none)
    (eInvalidCount_hd : PySem.W.hasDictIn K Y4 = true)
    (eInvalidCount_xm : PySem.W.exmAny K (.ref Y4) [.ref Y0, .ref Y1, .ref Y2] = some true)
    (ay5 : PySem.W.nsIn K mainGlobals "TooMany" = some (some (.ref Y5)))
    (eTooMany_exC : PySem.W.subIn K (.ref Y5) (.type "BaseException") = some true)
    (eTooMany_nf_most : PySem.W.findIn K (.ref Y5) "most" = some none)
    (eTooMany_nf_code : PySem.W.findIn K (.ref Y5) "code" = some none)
    (eTooMany_nf_given : PySem.W.findIn K (.ref Y5) "given" = some none)
    (eTooMany_nf_name : PySem.W.findIn K (.ref Y5) "name" = some none)
    (eTooMany_nf_at : PySem.W.findIn K (.ref Y5) "at" = some none)
    (eTooMany_nf_line : PySem.W.findIn K (.ref Y5) "line" = some none)
    (eTooMany_nf_limit : PySem.W.findIn K (.ref Y5) "limit" = some none)
    (eTooMany_lC : K.lookup Y5 = some (PySem.excClassObj eTooMany_nm eTooMany_q Y5 eTooMany_N eTooMany_bs eTooMany_bm true eTooMany_sn eTooMany_sub eTooMany_ab eTooMany_col eTooMany_dd eTooMany_k0 eTooMany_k1 eTooMany_k2 eTooMany_k3 eTooMany_k5 "ValueError.__new__"))
    (eTooMany_rv : PySem.HandSPX.refsVE eTooMany_bm = true)
    (eTooMany_sa : PySem.W.findIn K (.ref Y5) "__setattr__" = some (some (.builtin "object.__setattr__")))
    (eTooMany_ty : PySem.W.typeIn K (.ref Y5) = some (.type "type"))
    (eTooMany_kp : PySem.W.keepIn K (.ref Y5) = true)
    (eTooMany_hi : PySem.W.findIn K (.ref Y5) "__init__" = some (some (.ref eTooMany_fI)))
    (eTooMany_ti : PySem.W.typeIn K (.ref eTooMany_fI) = some (.type "function"))
    (eTooMany_lf : K.lookup eTooMany_fI = some ⟨eTooMany_oc, eTooMany_od, .func (PySem.W.ksFn "__init__" eTooMany_qual (defArgs (mst 8 0)) (defBody (mst 8 0)) (defScope (mst 8 0)) .none eTooMany_kV eTooMany_dc eTooMany_pm eTooMany_an (.ref eTooMany_cda) eTooMany_ct eTooMany_cc), eTooMany_osl⟩)
    (eTooMany_cdi : PySem.W.codeIn K (.ref eTooMany_cda) eTooMany_qual = true)
    (eTooMany_cel : K.lookup eTooMany_cc = some ⟨eTooMany_cl, eTooMany_cld, .cell (some (.ref eTooMany_Dd)), eTooMany_csl⟩)
    (eTooMany_cod : K.lookup eTooMany_cda = some ⟨eTooMany_ccl, eTooMany_cdd, .fields eTooMany_vs, eTooMany_ccs⟩)
    (eTooMany_fil : eTooMany_vs[2]? = some (.str eTooMany_file eTooMany_tf))
    (eTooMany_fe : ((P.main.file : Str) == eTooMany_file) = true)
    (eTooMany_cD : PySem.W.clsIn K eTooMany_Dd = some eTooMany_cd)
    (eTooMany_mro : PySem.W.mroIn K Y5 (.ref eTooMany_Dd) = some true)
    (eTooMany_up : PySem.W.ks_superIn K Y5 eTooMany_Dd "__init__" = some (some (.builtin "ValueError.__init__")))
    (eTooMany_sVE : PySem.W.subIn K (.ref Y5) (.type "ValueError") = some true)
    (eTooMany_ga : PySem.W.findIn K (.ref Y5) "__getattribute__" = some (some (.builtin "BaseException.__getattribute__")))
    (eTooMany_gg : PySem.W.findIn K (.ref Y5) "__getattr__" = some none)
    (eTooMany_hd : PySem.W.hasDictIn K Y5 = true)
    (eTooMany_xm : PySem.W.exmAny K (.ref Y5) [.ref Y0, .ref Y1, .ref Y2] = some true)
    (ev_Album_r : PySem.W.readsIn K C0 (.type "type") = true)
    (ev_Album_g : PySem.W.specialIn K (.ref C0) "__getattribute__" = some (some (.builtin "type.__getattribute__")))
    (ev_Album_MOST : PySem.W.findCls K (.ref C0) (.type "type") "MOST" = some (.val (.int 24 vt_Album_MOST)))
    (ev_Album_SAYINGS : PySem.W.findCls K (.ref C0) (.type "type") "SAYINGS" = some (.val (.int 40 vt_Album_SAYINGS)))
    (a0 : PySem.W.nsIn K mainGlobals "is_name" = some (some (.ref f0)))
    (l0 : K.lookup f0 = some ⟨oc0, od0, .func (PySem.W.fnOf "is_name" "is_name" (defArgs (top 14)) (defBody (top 14)) (defScope (top 14)) .none kV0 dc0 pm0 an0 cd0 ct0), sl0⟩)
    (c0 : PySem.W.codeIn K cd0 "is_name" = true)
    (k0 : PySem.W.keepIn K (.ref f0) = true)
    (a1 : PySem.W.nsIn K mainGlobals "is_number" = some (some (.ref f1)))
    (l1 : K.lookup f1 = some ⟨oc1, od1, .func (PySem.W.fnOf "is_number" "is_number" (defArgs (top 15)) (defBody (top 15)) (defScope (top 15)) .none kV1 dc1 pm1 an1 cd1 ct1), sl1⟩)
    (c1 : PySem.W.codeIn K cd1 "is_number" = true)
    (k1 : PySem.W.keepIn K (.ref f1) = true)
    (a2 : PySem.W.nsIn K mainGlobals "is_list" = some (some (.ref f2)))
    (l2 : K.lookup f2 = some ⟨oc2, od2, .func (PySem.W.fnOf "is_list" "is_list" (defArgs (top 16)) (defBody (top 16)) (defScope (top 16)) .none kV2 dc2 pm2 an2 cd2 ct2), sl2⟩)
    (c2 : PySem.W.codeIn K cd2 "is_list" = true)
    (k2 : PySem.W.keepIn K (.ref f2) = true)
    (a3 : PySem.W.nsIn K mainGlobals "pictures_of" = some (some (.ref f3)))
    (l3 : K.lookup f3 = some ⟨oc3, od3, .func (PySem.W.fnOf "pictures_of" "pictures_of" (defArgs (top 21)) (defBody (top 21)) (defScope (top 21)) .none kV3 dc3 pm3 an3 cd3 ct3), sl3⟩)
    (c3 : PySem.W.codeIn K cd3 "pictures_of" = true)
    (k3 : PySem.W.keepIn K (.ref f3) = true)
    (a4 : PySem.W.nsIn K mainGlobals "is_tie" = some (some (.ref f4)))
    (l4 : K.lookup f4 = some ⟨oc4, od4, .func (PySem.W.fnOf "is_tie" "is_tie" (defArgs (top 22)) (defBody (top 22)) (defScope (top 22)) .none kV4 dc4 pm4 an4 cd4 ct4), sl4⟩)
    (c4 : PySem.W.codeIn K cd4 "is_tie" = true)
    (k4 : PySem.W.keepIn K (.ref f4) = true)
    (hf5 : PySem.W.findIn K (.ref C0) "said_bars" = some (some (.ref f5)))
    (fn5 : PySem.W.isFn K (.ref f5) = true)
    (l5 : K.lookup f5 = some ⟨oc5, od5, .func (PySem.W.fnOf "said_bars" "Album.said_bars" (defArgs (mst 27 3)) (defBody (mst 27 3)) (defScope (mst 27 3)) .none kV5 dc5 pm5 an5 cd5 ct5), sl5⟩)
    (c5 : PySem.W.codeIn K cd5 "Album.said_bars" = true)
    (k5 : PySem.W.keepIn K (.ref f5) = true)
    (hf6 : PySem.W.findIn K (.ref C0) "many" = some (some (.ref p6)))
    (gg6 : PySem.W.specialIn K (.ref p6) "__get__" = some (some (.builtin "property.__get__")))
    (tk6 : PySem.W.takesIn K (.ref p6) = some true)
    (rc6 : PySem.W.recIn K p6 "property" = some (.ref f6 :: rs6))
    (l6 : K.lookup f6 = some ⟨oc6, od6, .func (PySem.W.fnOf "many" "Album.many" (defArgs (mst 27 4)) (defBody (mst 27 4)) (defScope (mst 27 4)) .none kV6 dc6 pm6 an6 cd6 ct6), sl6⟩)
    (c6 : PySem.W.codeIn K cd6 "Album.many" = true)
    (k6 : PySem.W.keepIn K (.ref f6) = true)
    (hf7 : PySem.W.findIn K (.ref C0) "sayings" = some (some (.ref f7)))
    (fn7 : PySem.W.isFn K (.ref f7) = true)
    (l7 : K.lookup f7 = some ⟨oc7, od7, .func (PySem.W.fnOf "sayings" "Album.sayings" (defArgs (mst 27 6)) (defBody (mst 27 6)) (defScope (mst 27 6)) .none kV7 dc7 pm7 an7 cd7 ct7), sl7⟩)
    (c7 : PySem.W.codeIn K cd7 "Album.sayings" = true)
    (k7 : PySem.W.keepIn K (.ref f7) = true)
    (hf8 : PySem.W.findIn K (.ref C0) "__len__" = some (some (.ref f8)))
    (fn8 : PySem.W.isFn K (.ref f8) = true)
    (l8 : K.lookup f8 = some ⟨oc8, od8, .func (PySem.W.fnOf "__len__" "Album.__len__" (defArgs (mst 27 22)) (defBody (mst 27 22)) (defScope (mst 27 22)) .none kV8 dc8 pm8 an8 cd8 ct8), sl8⟩)
    (c8 : PySem.W.codeIn K cd8 "Album.__len__" = true)
    (k8 : PySem.W.keepIn K (.ref f8) = true)
    (a9 : PySem.W.nsIn K mainGlobals "_law_bag" = some (some (.ref f9)))
    (l9 : K.lookup f9 = some ⟨oc9, od9, .func (PySem.W.fnOf "_law_bag" "_law_bag" (defArgs (top 30)) (defBody (top 30)) (defScope (top 30)) .none kV9 dc9 pm9 an9 cd9 ct9), sl9⟩)
    (c9 : PySem.W.codeIn K cd9 "_law_bag" = true)
    (k9 : PySem.W.keepIn K (.ref f9) = true)
    (a10 : PySem.W.nsIn K mainGlobals "_law_draw" = some (some (.ref f10)))
    (l10 : K.lookup f10 = some ⟨oc10, od10, .func (PySem.W.fnOf "_law_draw" "_law_draw" (defArgs (top 31)) (defBody (top 31)) (defScope (top 31)) .none kV10 dc10 pm10 an10 cd10 ct10), sl10⟩)
    (c10 : PySem.W.codeIn K cd10 "_law_draw" = true)
    (k10 : PySem.W.keepIn K (.ref f10) = true)
    (a11 : PySem.W.nsIn K mainGlobals "_law_letters" = some (some (.ref f11)))
    (l11 : K.lookup f11 = some ⟨oc11, od11, .func (PySem.W.fnOf "_law_letters" "_law_letters" (defArgs (top 33)) (defBody (top 33)) (defScope (top 33)) .none kV11 dc11 pm11 an11 cd11 ct11), sl11⟩)
    (c11 : PySem.W.codeIn K cd11 "_law_letters" = true)
    (k11 : PySem.W.keepIn K (.ref f11) = true)
    (a12 : PySem.W.nsIn K mainGlobals "_law_is_number" = some (some (.ref f12)))
    (l12 : K.lookup f12 = some ⟨oc12, od12, .func (PySem.W.fnOf "_law_is_number" "_law_is_number" (defArgs (top 36)) (defBody (top 36)) (defScope (top 36)) .none kV12 dc12 pm12 an12 cd12 ct12), sl12⟩)
    (c12 : PySem.W.codeIn K cd12 "_law_is_number" = true)
    (k12 : PySem.W.keepIn K (.ref f12) = true)
    (a13 : PySem.W.nsIn K mainGlobals "_law_field" = some (some (.ref f13)))
    (l13 : K.lookup f13 = some ⟨oc13, od13, .func (PySem.W.fnOf "_law_field" "_law_field" (defArgs (top 39)) (defBody (top 39)) (defScope (top 39)) .none kV13 dc13 pm13 an13 cd13 ct13), sl13⟩)
    (c13 : PySem.W.codeIn K cd13 "_law_field" = true)
    (k13 : PySem.W.keepIn K (.ref f13) = true)
    (a14 : PySem.W.nsIn K mainGlobals "is_picture" = some (some (.ref f14)))
    (l14 : K.lookup f14 = some ⟨oc14, od14, .func (PySem.W.fnOf "is_picture" "is_picture" (defArgs (top 17)) (defBody (top 17)) (defScope (top 17)) .none kV14 dc14 pm14 an14 cd14 ct14), sl14⟩)
    (c14 : PySem.W.codeIn K cd14 "is_picture" = true)
    (k14 : PySem.W.keepIn K (.ref f14) = true)
    (a15 : PySem.W.nsIn K mainGlobals "closed" = some (some (.ref f15)))
    (l15 : K.lookup f15 = some ⟨oc15, od15, .func (PySem.W.fnOf "closed" "closed" (defArgs (top 26)) (defBody (top 26)) (defScope (top 26)) .none kV15 dc15 pm15 an15 cd15 ct15), sl15⟩)
    (c15 : PySem.W.codeIn K cd15 "closed" = true)
    (k15 : PySem.W.keepIn K (.ref f15) = true)
    (a16 : PySem.W.nsIn K mainGlobals "_law_pick" = some (some (.ref f16)))
    (l16 : K.lookup f16 = some ⟨oc16, od16, .func (PySem.W.fnOf "_law_pick" "_law_pick" (defArgs (top 32)) (defBody (top 32)) (defScope (top 32)) .none kV16 dc16 pm16 an16 cd16 ct16), sl16⟩)
    (c16 : PySem.W.codeIn K cd16 "_law_pick" = true)
    (k16 : PySem.W.keepIn K (.ref f16) = true)
    (a17 : PySem.W.nsIn K mainGlobals "_law_is_name" = some (some (.ref f17)))
    (l17 : K.lookup f17 = some ⟨oc17, od17, .func (PySem.W.fnOf "_law_is_name" "_law_is_name" (defArgs (top 37)) (defBody (top 37)) (defScope (top 37)) .none kV17 dc17 pm17 an17 cd17 ct17), sl17⟩)
    (c17 : PySem.W.codeIn K cd17 "_law_is_name" = true)
    (k17 : PySem.W.keepIn K (.ref f17) = true)
    (a18 : PySem.W.nsIn K mainGlobals "is_saying" = some (some (.ref f18)))
    (l18 : K.lookup f18 = some ⟨oc18, od18, .func (PySem.W.fnOf "is_saying" "is_saying" (defArgs (top 18)) (defBody (top 18)) (defScope (top 18)) .none kV18 dc18 pm18 an18 cd18 ct18), sl18⟩)
    (c18 : PySem.W.codeIn K cd18 "is_saying" = true)
    (k18 : PySem.W.keepIn K (.ref f18) = true)
    (a19 : PySem.W.nsIn K mainGlobals "_law_names" = some (some (.ref f19)))
    (l19 : K.lookup f19 = some ⟨oc19, od19, .func (PySem.W.fnOf "_law_names" "_law_names" (defArgs (top 34)) (defBody (top 34)) (defScope (top 34)) .none kV19 dc19 pm19 an19 cd19 ct19), sl19⟩)
    (c19 : PySem.W.codeIn K cd19 "_law_names" = true)
    (k19 : PySem.W.keepIn K (.ref f19) = true)
    (a20 : PySem.W.nsIn K mainGlobals "_law_is_saying" = some (some (.ref f20)))
    (l20 : K.lookup f20 = some ⟨oc20, od20, .func (PySem.W.fnOf "_law_is_saying" "_law_is_saying" (defArgs (top 38)) (defBody (top 38)) (defScope (top 38)) .none kV20 dc20 pm20 an20 cd20 ct20), sl20⟩)
    (c20 : PySem.W.codeIn K cd20 "_law_is_saying" = true)
    (k20 : PySem.W.keepIn K (.ref f20) = true)
    (a21 : PySem.W.nsIn K mainGlobals "check_sayings" = some (some (.ref f21)))
    (l21 : K.lookup f21 = some ⟨oc21, od21, .func (PySem.W.fnOf "check_sayings" "check_sayings" (defArgs (top 25)) (defBody (top 25)) (defScope (top 25)) .none kV21 dc21 pm21 an21 cd21 ct21), sl21⟩)
    (c21 : PySem.W.codeIn K cd21 "check_sayings" = true)
    (k21 : PySem.W.keepIn K (.ref f21) = true)
    (a22 : PySem.W.nsIn K mainGlobals "_law_any" = some (some (.ref f22)))
    (l22 : K.lookup f22 = some ⟨oc22, od22, .func (PySem.W.fnOf "_law_any" "_law_any" (defArgs (top 35)) (defBody (top 35)) (defScope (top 35)) .none kV22 dc22 pm22 an22 cd22 ct22), sl22⟩)
    (c22 : PySem.W.codeIn K cd22 "_law_any" = true)
    (k22 : PySem.W.keepIn K (.ref f22) = true)
    (hf23 : PySem.W.findIn K (.ref C0) "__init__" = some (some (.ref f23)))
    (fn23 : PySem.W.isFn K (.ref f23) = true)
    (mk23 : PySem.W.makesIn K C0 = true)
    (kC23 : PySem.W.keepIn K (.ref C0) = true)
    (l23 : K.lookup f23 = some ⟨oc23, od23, .func (PySem.W.fnOf "__init__" "Album.__init__" (defArgs (mst 27 2)) (defBody (mst 27 2)) (defScope (mst 27 2)) (.ref T23) kV23 dc23 pm23 an23 cd23 ct23), sl23⟩)
    (c23 : PySem.W.codeIn K cd23 "Album.__init__" = true)
    (k23 : PySem.W.keepIn K (.ref f23) = true)
    (lT23 : K.lookup T23 = some ⟨.type "tuple", td23, .seq #[.int 0 dt23_0, .ref E23_1] nn23, ts23⟩)
    (ln23_1 : K.lookup E23_1 = some ⟨.type "tuple", ed23_1, .seq #[] en23_1, es23_1⟩)
    (a24 : PySem.W.nsIn K mainGlobals "_law_got" = some (some (.ref f24)))
    (l24 : K.lookup f24 = some ⟨oc24, od24, .func (PySem.W.fnOf "_law_got" "_law_got" (defArgs (top 40)) (defBody (top 40)) (defScope (top 40)) .none kV24 dc24 pm24 an24 cd24 ct24), sl24⟩)
    (c24 : PySem.W.codeIn K cd24 "_law_got" = true)
    (k24 : PySem.W.keepIn K (.ref f24) = true)
    (a25 : PySem.W.nsIn K mainGlobals "_law_same" = some (some (.ref f25)))
    (l25 : K.lookup f25 = some ⟨oc25, od25, .func (PySem.W.fnOf "_law_same" "_law_same" (defArgs (top 41)) (defBody (top 41)) (defScope (top 41)) .none kV25 dc25 pm25 an25 cd25 ct25), sl25⟩)
    (c25 : PySem.W.codeIn K cd25 "_law_same" = true)
    (k25 : PySem.W.keepIn K (.ref f25) = true)
    (a26 : PySem.W.nsIn K mainGlobals "_law_all" = some (some (.ref f26)))
    (l26 : K.lookup f26 = some ⟨oc26, od26, .func (PySem.W.fnOf "_law_all" "_law_all" (defArgs (top 42)) (defBody (top 42)) (defScope (top 42)) .none kV26 dc26 pm26 an26 cd26 ct26), sl26⟩)
    (c26 : PySem.W.codeIn K cd26 "_law_all" = true)
    (k26 : PySem.W.keepIn K (.ref f26) = true)
    (a27 : PySem.W.nsIn K mainGlobals "law" = some (some (.ref f27)))
    (l27 : K.lookup f27 = some ⟨oc27, od27, .func (PySem.W.fnOf "law" "law" (defArgs (top 43)) (defBody (top 43)) (defScope (top 43)) .none kV27 dc27 pm27 an27 (.ref cl0) ct27), sl27⟩)
    (c27 : PySem.W.codeIn K (.ref cl0) "law" = true)
    (k27 : PySem.W.keepIn K (.ref f27) = true)
    (tb0 : K.lookup cl0 = some ⟨tcl, tod, .fields tvs, tsl⟩)
    (tb1 : tvs[11]? = some (.ref Pt))
    (tb2 : PySem.W.codeHdIn K cl0 Pt = true)
    (tb3 : K.lookup Pt = none)
    (tb4 : h.get? Pt = some { cls := .none, data := .fields #[] }) :
    ∃ tbs : List (Addr × Addr × Str), (tbs.map (·.2.1)).Nodup ∧ (∀ t ∈ tbs, h.get? t.2.1 = some { cls := .none, data := .fields #[] } ∧ K.lookup t.2.1 = none ∧ PySem.W.codeHdIn K t.1 t.2.1 = true) ∧ TopFn K mg "law" (top 43) ∧ ∀ fd, Fun K "law" "law" (top 43) (ca mg "law") fd → mg "law" = some (.ref (ca mg "law")) → ∀ base : Heap, (∀ t ∈ tbs, LamX.TabB base mg t.1 t.2.1) → FnOk P W K mg base (L2.CX P W) 10 (ca mg "law") fd ["_law_script"] (spD K mg (spLawT tbs)) := by
  have hB : ∀ x ∈ allB, mg x = none := bts_cons (PySem.W.mg_none_of X G z0) (bts_cons (PySem.W.mg_none_of X G z1) (bts_cons (PySem.W.mg_none_of X G z2) (bts_cons (PySem.W.mg_none_of X G z3) (bts_cons (PySem.W.mg_none_of X G z4) (bts_cons (PySem.W.mg_none_of X G z5) (bts_cons (PySem.W.mg_none_of X G z6) (bts_cons (PySem.W.mg_none_of X G z7) (bts_cons (PySem.W.mg_none_of X G z8) (bts_cons (PySem.W.mg_none_of X G z9) (bts_cons (PySem.W.mg_none_of X G z10) (bts_cons (PySem.W.mg_none_of X G z11) (bts_cons (PySem.W.mg_none_of X G z12) (bts_cons (PySem.W.mg_none_of X G z13) (bts_cons (PySem.W.mg_none_of X G z14) (bts_cons (PySem.W.mg_none_of X G z15) (bts_nil))))))))))))))))
  have KAlbum : ClsD K mg "Album" ["own_many", "own_sayings", "own_ties", "own_leaders", "own_names", "own_single", "own_bars"] := clsD X G ac0 pg0 hd0 po0 sa0 (nf_cons nf0_0 (nf_cons nf0_1 (nf_cons nf0_2 (nf_cons nf0_3 (nf_cons nf0_4 (nf_cons nf0_5 (nf_cons nf0_6 (nf_nil))))))))
  have KRoamError : mg "RoamError" = some (.ref (ca mg "RoamError")) := (ca_of X G ay0).1
  have KMissing : mg "Missing" = some (.ref (ca mg "Missing")) := (ca_of X G ay1).1
  have KNothingLeft : mg "NothingLeft" = some (.ref (ca mg "NothingLeft")) := (ca_of X G ay2).1
  have EKInvalidSaying : ErrK P K Y3 eInvalidSaying_fI eInvalidSaying_Dd eInvalidSaying_cc eInvalidSaying_cda (mst 5 0) := ⟨⟨_, _, _, _, _, _, _, _, _, _, _, _, _, _, _, eInvalidSaying_lC, eInvalidSaying_rv⟩, eInvalidSaying_sa, eInvalidSaying_exC, eInvalidSaying_ty, eInvalidSaying_kp, eInvalidSaying_nf_code, eInvalidSaying_hi, eInvalidSaying_ti, ⟨_, _, _, _, _, _, _, _, _, eInvalidSaying_lf, eInvalidSaying_cdi⟩, ⟨_, _, _, eInvalidSaying_cel⟩, ⟨_, _, _, _, _, _, eInvalidSaying_cod, eInvalidSaying_fil, eInvalidSaying_fe⟩, ⟨_, eInvalidSaying_cD⟩, eInvalidSaying_mro, esup, enon, eInvalidSaying_up, eInvalidSaying_sVE, eopq⟩
  have EInvalidSaying : ∀ base : Heap, ErrD P W K mg base 1 "InvalidSaying" 1 [("at", .inl 0), ("code", .inr "InvalidSaying")] := fun base => errD1_mk X G ay3 EKInvalidSaying eInvalidSaying_nf_at (by decide +kernel) (by decide +kernel) rfl ⟨_, _, rfl, rfl, rfl, rfl, rfl, rfl, rfl⟩ (fun _ => rfl)
  have HInvalidSaying : CaughtD K mg "InvalidSaying" := caught_mk X G ay3 ay0 ay1 ay2 ⟨eInvalidSaying_ga, eInvalidSaying_gg, eInvalidSaying_exC, eInvalidSaying_hd⟩ (nf_cons eInvalidSaying_nf_code (nf_cons eInvalidSaying_nf_given (nf_cons eInvalidSaying_nf_name (nf_cons eInvalidSaying_nf_at (nf_cons eInvalidSaying_nf_line (nf_cons eInvalidSaying_nf_limit (nf_cons eInvalidSaying_nf_most (nf_nil)))))))) eInvalidSaying_xm
  have EKInvalidCount : ErrK P K Y4 eInvalidCount_fI eInvalidCount_Dd eInvalidCount_cc eInvalidCount_cda (mst 4 0) := ⟨⟨_, _, _, _, _, _, _, _, _, _, _, _, _, _, _, eInvalidCount_lC, eInvalidCount_rv⟩, eInvalidCount_sa, eInvalidCount_exC, eInvalidCount_ty, eInvalidCount_kp, eInvalidCount_nf_code, eInvalidCount_hi, eInvalidCount_ti, ⟨_, _, _, _, _, _, _, _, _, eInvalidCount_lf, eInvalidCount_cdi⟩, ⟨_, _, _, eInvalidCount_cel⟩, ⟨_, _, _, _, _, _, eInvalidCount_cod, eInvalidCount_fil, eInvalidCount_fe⟩, ⟨_, eInvalidCount_cD⟩, eInvalidCount_mro, esup, enon, eInvalidCount_up, eInvalidCount_sVE, eopq⟩
  have EInvalidCount : ∀ base : Heap, ErrD P W K mg base 1 "InvalidCount" 1 [("given", .inl 0), ("code", .inr "InvalidCount")] := fun base => errD1_mk X G ay4 EKInvalidCount eInvalidCount_nf_given (by decide +kernel) (by decide +kernel) rfl ⟨_, _, rfl, rfl, rfl, rfl, rfl, rfl, rfl⟩ (fun _ => rfl)
  have HInvalidCount : CaughtD K mg "InvalidCount" := caught_mk X G ay4 ay0 ay1 ay2 ⟨eInvalidCount_ga, eInvalidCount_gg, eInvalidCount_exC, eInvalidCount_hd⟩ (nf_cons eInvalidCount_nf_code (nf_cons eInvalidCount_nf_given (nf_cons eInvalidCount_nf_name (nf_cons eInvalidCount_nf_at (nf_cons eInvalidCount_nf_line (nf_cons eInvalidCount_nf_limit (nf_cons eInvalidCount_nf_most (nf_nil)))))))) eInvalidCount_xm
  have EKTooMany : ErrK P K Y5 eTooMany_fI eTooMany_Dd eTooMany_cc eTooMany_cda (mst 8 0) := ⟨⟨_, _, _, _, _, _, _, _, _, _, _, _, _, _, _, eTooMany_lC, eTooMany_rv⟩, eTooMany_sa, eTooMany_exC, eTooMany_ty, eTooMany_kp, eTooMany_nf_code, eTooMany_hi, eTooMany_ti, ⟨_, _, _, _, _, _, _, _, _, eTooMany_lf, eTooMany_cdi⟩, ⟨_, _, _, eTooMany_cel⟩, ⟨_, _, _, _, _, _, eTooMany_cod, eTooMany_fil, eTooMany_fe⟩, ⟨_, eTooMany_cD⟩, eTooMany_mro, esup, enon, eTooMany_up, eTooMany_sVE, eopq⟩
  have ETooMany : ∀ base : Heap, ErrD P W K mg base 1 "TooMany" 1 [("most", .inl 0), ("code", .inr "TooMany")] := fun base => errD1_mk X G ay5 EKTooMany eTooMany_nf_most (by decide +kernel) (by decide +kernel) rfl ⟨_, _, rfl, rfl, rfl, rfl, rfl, rfl, rfl⟩ (fun _ => rfl)
  have HTooMany : CaughtD K mg "TooMany" := caught_mk X G ay5 ay0 ay1 ay2 ⟨eTooMany_ga, eTooMany_gg, eTooMany_exC, eTooMany_hd⟩ (nf_cons eTooMany_nf_code (nf_cons eTooMany_nf_given (nf_cons eTooMany_nf_name (nf_cons eTooMany_nf_at (nf_cons eTooMany_nf_line (nf_cons eTooMany_nf_limit (nf_cons eTooMany_nf_most (nf_nil)))))))) eTooMany_xm
  have VAlbum_MOST : ClsV K mg "Album" "MOST" (.int 24) := clsV_int X G ac0 ev_Album_r ev_Album_g ev_Album_MOST
  have VAlbum_SAYINGS : ClsV K mg "Album" "SAYINGS" (.int 40) := clsV_int X G ac0 ev_Album_r ev_Album_g ev_Album_SAYINGS
  have Tis_name := topFn X G a0 l0 c0 k0
  have Tis_number := topFn X G a1 l1 c1 k1
  have Tis_list := topFn X G a2 l2 c2 k2
  have Tpictures_of := topFn X G a3 l3 c3 k3
  have Tis_tie := topFn X G a4 l4 c4 k4
  have TAlbum_said_bars : TopM K mg "Album" "said_bars" "Album.said_bars" (mst 27 3) := topM X G ac0 KAlbum hf5 fn5 l5 c5 k5
  have TAlbum_many : TopP K mg "Album" "many" "Album.many" (mst 27 4) := topP X G ac0 KAlbum hf6 gg6 tk6 rc6 l6 c6 k6
  have TAlbum_sayings : TopM K mg "Album" "sayings" "Album.sayings" (mst 27 6) := topM X G ac0 KAlbum hf7 fn7 l7 c7 k7
  have TAlbum___len__ : TopM K mg "Album" "__len__" "Album.__len__" (mst 27 22) := topM X G ac0 KAlbum hf8 fn8 l8 c8 k8
  have T_law_bag := topFn X G a9 l9 c9 k9
  have T_law_draw := topFn X G a10 l10 c10 k10
  have T_law_letters := topFn X G a11 l11 c11 k11
  have T_law_is_number := topFn X G a12 l12 c12 k12
  have T_law_field := topFn X G a13 l13 c13 k13
  have Tis_picture := topFn X G a14 l14 c14 k14
  have Tclosed := topFn X G a15 l15 c15 k15
  have T_law_pick := topFn X G a16 l16 c16 k16
  have T_law_is_name := topFn X G a17 l17 c17 k17
  have Tis_saying := topFn X G a18 l18 c18 k18
  have T_law_names := topFn X G a19 l19 c19 k19
  have T_law_is_saying := topFn X G a20 l20 c20 k20
  have Tcheck_sayings := topFn X G a21 l21 c21 k21
  have T_law_any := topFn X G a22 l22 c22 k22
  have TAlbum___init__ : TopIV K mg "Album" "Album.__init__" (mst 27 2) [.int 0, .tup []] := topIV X G ac0 mk23 hf23 fn23 kC23 l23 c23 k23 lT23 (by simp) (.cons dv_int (.cons (dv_nil ln23_1) (.nil)))
  have T_law_got := topFn X G a24 l24 c24 k24
  have T_law_same := topFn X G a25 l25 c25 k25
  have T_law_all := topFn X G a26 l26 c26 k26
  have Tlaw := topFn X G a27 l27 c27 k27
  have GLETTERS : Gc mg "LETTERS" (.str abc) := .str X G g0
  have GMOST_PICTURES : Gc mg "MOST_PICTURES" (.int 24) := .int X G g1
  have GMOST_SAYINGS : Gc mg "MOST_SAYINGS" (.int 40) := .int X G g2
  exact ⟨[(cl0, Pt, lamQ "law")], by simp, fun t ht => by rw [List.mem_singleton] at ht; subst ht; exact ⟨tb4, tb3, tb2⟩, Tlaw, fun fd F gm base TB => fin hB Tis_name Tis_number Tis_list Tpictures_of Tis_tie TAlbum_said_bars TAlbum_many TAlbum_sayings TAlbum___len__ T_law_bag T_law_draw T_law_letters T_law_is_number T_law_field Tis_picture Tclosed T_law_pick T_law_is_name Tis_saying T_law_names T_law_is_saying Tcheck_sayings T_law_any TAlbum___init__ T_law_got T_law_same T_law_all GLETTERS GMOST_PICTURES GMOST_SAYINGS KAlbum EInvalidSaying EInvalidCount ETooMany HInvalidCount HInvalidSaying HTooMany VAlbum_MOST VAlbum_SAYINGS KRoamError KMissing KNothingLeft gm F (law_code X G a27 l27 F) (TB _ List.mem_cons_self)⟩
end T
open PySem PySem.W PyProof.Rows
set_option maxRecDepth 100000 in
set_option maxHeartbeats 0 in
theorem PySem.Challenge.cw_labelroam_k04_albums_refused_holds : PySem.Challenge.rw_labelroam_k04_albums_refused.Holds := by
  w_on; o_law; k_head; (case hw => w_witness2)
  k_fill
  refine L3.law_walkT (l := PySem.Challenge.rw_labelroam_k04_albums_refused) (k := 10) (x := "_law_script") (st := T.top 43) rfl rfl (fun w h Y => PySem.W.km_in_of Y) rfl ⟨rfl, by decide, by decide⟩ (fun _ _ _ _ _ _ _ => rfl) ?F
  case F =>
    intro w mg h Y KX G
    refine' T.fin_mk KX G ?hole_z0 ?hole_z1 ?hole_z2 ?hole_z3 ?hole_z4 ?hole_z5 ?hole_z6 ?hole_z7 ?hole_z8 ?hole_z9 ?hole_z10 ?hole_z11 ?hole_z12 ?hole_z13 ?hole_z14 ?hole_z15 ?hole_g0 ?hole_g1 ?hole_g2 ?hole_ac0 ?hole_pg0 ?hole_hd0 ?hole_po0 ?hole_sa0 ?hole_nf0_0 ?hole_nf0_1 ?hole_nf0_2 ?hole_nf0_3 ?hole_nf0_4 ?hole_nf0_5 ?hole_nf0_6 ?hole_ay0 ?hole_ay1 ?hole_ay2 ?hole_esup ?hole_eopq ?hole_enon ?hole_ay3 ?hole_eInvalidSaying_exC ?hole_eInvalidSaying_nf_at ?hole_eInvalidSaying_nf_code ?hole_eInvalidSaying_nf_given ?hole_eInvalidSaying_nf_name ?hole_eInvalidSaying_nf_line ?hole_eInvalidSaying_nf_limit ?hole_eInvalidSaying_nf_most ?hole_eInvalidSaying_lC ?hole_eInvalidSaying_rv ?hole_eInvalidSaying_sa ?hole_eInvalidSaying_ty ?hole_eInvalidSaying_kp ?hole_eInvalidSaying_hi ?hole_eInvalidSaying_ti ?hole_eInvalidSaying_lf ?hole_eInvalidSaying_cdi ?hole_eInvalidSaying_cel ?hole_eInvalidSaying_cod ?hole_eInvalidSaying_fil ?hole_eInvalidSaying_fe ?hole_eInvalidSaying_cD ?hole_eInvalidSaying_mro ?hole_eInvalidSaying_up ?hole_eInvalidSaying_sVE ?hole_eInvalidSaying_ga ?hole_eInvalidSaying_gg ?hole_eInvalidSaying_hd ?hole_eInvalidSaying_xm ?hole_ay4 ?hole_eInvalidCount_exC ?hole_eInvalidCount_nf_given ?hole_eInvalidCount_nf_code ?hole_eInvalidCount_nf_name ?hole_eInvalidCount_nf_at ?hole_eInvalidCount_nf_line ?hole_eInvalidCount_nf_limit ?hole_eInvalidCount_nf_most ?hole_eInvalidCount_lC ?hole_eInvalidCount_rv ?hole_eInvalidCount_sa ?hole_eInvalidCount_ty ?hole_eInvalidCount_kp ?hole_eInvalidCount_hi ?hole_eInvalidCount_ti ?hole_eInvalidCount_lf ?hole_eInvalidCount_cdi ?hole_eInvalidCount_cel ?hole_eInvalidCount_cod ?hole_eInvalidCount_fil ?hole_eInvalidCount_fe ?hole_eInvalidCount_cD ?hole_eInvalidCount_mro ?hole_eInvalidCount_up ?hole_eInvalidCount_sVE ?hole_eInvalidCount_ga ?hole_eInvalidCount_gg ?hole_eInvalidCount_hd ?hole_eInvalidCount_xm ?hole_ay5 ?hole_eTooMany_exC ?hole_eTooMany_nf_most ?hole_eTooMany_nf_code ?hole_eTooMany_nf_given ?hole_eTooMany_nf_name ?hole_eTooMany_nf_at ?hole_eTooMany_nf_line ?hole_eTooMany_nf_limit ?hole_eTooMany_lC ?hole_eTooMany_rv ?hole_eTooMany_sa ?hole_eTooMany_ty ?hole_eTooMany_kp ?hole_eTooMany_hi ?hole_eTooMany_ti ?hole_eTooMany_lf ?hole_eTooMany_cdi ?hole_eTooMany_cel ?hole_eTooMany_cod ?hole_eTooMany_fil ?hole_eTooMany_fe ?hole_eTooMany_cD ?hole_eTooMany_mro ?hole_eTooMany_up ?hole_eTooMany_sVE ?hole_eTooMany_ga ?hole_eTooMany_gg ?hole_eTooMany_hd ?hole_eTooMany_xm ?hole_ev_Album_r ?hole_ev_Album_g ?hole_ev_Album_MOST ?hole_ev_Album_SAYINGS ?hole_a0 ?hole_l0 ?hole_c0 ?hole_k0 ?hole_a1 ?hole_l1 ?hole_c1 ?hole_k1 ?hole_a2 ?hole_l2 ?hole_c2 ?hole_k2 ?hole_a3 ?hole_l3 ?hole_c3 ?hole_k3 ?hole_a4 ?hole_l4 ?hole_c4 ?hole_k4 ?hole_hf5 ?hole_fn5 ?hole_l5 ?hole_c5 ?hole_k5 ?hole_hf6 ?hole_gg6 ?hole_tk6 ?hole_rc6 ?hole_l6 ?hole_c6 ?hole_k6 ?hole_hf7 ?hole_fn7 ?hole_l7 ?hole_c7 ?hole_k7 ?hole_hf8 ?hole_fn8 ?hole_l8 ?hole_c8 ?hole_k8 ?hole_a9 ?hole_l9 ?hole_c9 ?hole_k9 ?hole_a10 ?hole_l10 ?hole_c10 ?hole_k10 ?hole_a11 ?hole_l11 ?hole_c11 ?hole_k11 ?hole_a12 ?hole_l12 ?hole_c12 ?hole_k12 ?hole_a13 ?hole_l13 ?hole_c13 ?hole_k13 ?hole_a14 ?hole_l14 ?hole_c14 ?hole_k14 ?hole_a15 ?hole_l15 ?hole_c15 ?hole_k15 ?hole_a16 ?hole_l16 ?hole_c16 ?hole_k16 ?hole_a17 ?hole_l17 ?hole_c17 ?hole_k17 ?hole_a18 ?hole_l18 ?hole_c18 ?hole_k18 ?hole_a19 ?hole_l19 ?hole_c19 ?hole_k19 ?hole_a20 ?hole_l20 ?hole_c20 ?hole_k20 ?hole_a21 ?hole_l21 ?hole_c21 ?hole_k21 ?hole_a22 ?hole_l22 ?hole_c22 ?hole_k22 ?hole_hf23 ?hole_fn23 ?hole_mk23 ?hole_kC23 ?hole_l23 ?hole_c23 ?hole_k23 ?hole_lT23 ?hole_ln23_1 ?hole_a24 ?hole_l24 ?hole_c24 ?hole_k24 ?hole_a25 ?hole_l25 ?hole_c25 ?hole_k25 ?hole_a26 ?hole_l26 ?hole_c26 ?hole_k26 ?hole_a27 ?hole_l27 ?hole_c27 ?hole_k27 ?hole_tb0 ?hole_tb1 ?hole_tb2 ?hole_tb3 ?hole_tb4
    (case hole_z0 => k_is)
    (case hole_z1 => k_is)
    (case hole_z2 => k_is)
    (case hole_z3 => k_is)
    (case hole_z4 => k_is)
    (case hole_z5 => k_is)
    (case hole_z6 => k_is)
    (case hole_z7 => k_is)
    (case hole_z8 => k_is)
    (case hole_z9 => k_is)
    (case hole_z10 => k_is)
    (case hole_z11 => k_is)
    (case hole_z12 => k_is)
    (case hole_z13 => k_is)
    (case hole_z14 => k_is)
    (case hole_z15 => k_is)
    (case hole_g0 => k_is)
    (case hole_g1 => k_is)
    (case hole_g2 => k_is)
    (case hole_ac0 => k_is)
    (case hole_pg0 => k_is)
    (case hole_hd0 => k_is)
    (case hole_po0 => k_is)
    (case hole_sa0 => k_is)
    (case hole_nf0_0 => k_is)
    (case hole_nf0_1 => k_is)
    (case hole_nf0_2 => k_is)
    (case hole_nf0_3 => k_is)
    (case hole_nf0_4 => k_is)
    (case hole_nf0_5 => k_is)
    (case hole_nf0_6 => k_is)
    (case hole_ay0 => k_is)
    (case hole_ay1 => k_is)
    (case hole_ay2 => k_is)
    (case hole_esup => first | k_is | exact rfl)
    (case hole_eopq => first | k_is | exact rfl)
    (case hole_enon => first | k_is | exact rfl)
    (case hole_ay3 => k_is)
    (case hole_eInvalidSaying_exC => first | k_is | exact rfl)
    (case hole_eInvalidSaying_nf_at => first | k_is | exact rfl)
    (case hole_eInvalidSaying_nf_code => first | k_is | exact rfl)
    (case hole_eInvalidSaying_nf_given => first | k_is | exact rfl)
    (case hole_eInvalidSaying_nf_name => first | k_is | exact rfl)
    (case hole_eInvalidSaying_nf_line => first | k_is | exact rfl)
    (case hole_eInvalidSaying_nf_limit => first | k_is | exact rfl)
    (case hole_eInvalidSaying_nf_most => first | k_is | exact rfl)
    (case hole_eInvalidSaying_lC => first | k_is | exact rfl)
    (case hole_eInvalidSaying_rv => first | k_is | exact rfl)
    (case hole_eInvalidSaying_sa => first | k_is | exact rfl)
    (case hole_eInvalidSaying_ty => first | k_is | exact rfl)
    (case hole_eInvalidSaying_kp => first | k_is | exact rfl)
    (case hole_eInvalidSaying_hi => first | k_is | exact rfl)
    (case hole_eInvalidSaying_ti => first | k_is | exact rfl)
    (case hole_eInvalidSaying_lf => first | k_is | exact rfl)
    (case hole_eInvalidSaying_cdi => first | k_is | exact rfl)
    (case hole_eInvalidSaying_cel => first | k_is | exact rfl)
    (case hole_eInvalidSaying_cod => first | k_is | exact rfl)
    (case hole_eInvalidSaying_fil => first | k_is | exact rfl)
    (case hole_eInvalidSaying_fe => first | k_is | exact rfl)
    (case hole_eInvalidSaying_cD => first | k_is | exact rfl)
    (case hole_eInvalidSaying_mro => first | k_is | exact rfl)
    (case hole_eInvalidSaying_up => first | k_is | exact rfl)
    (case hole_eInvalidSaying_sVE => first | k_is | exact rfl)
    (case hole_eInvalidSaying_ga => first | k_is | exact rfl)
    (case hole_eInvalidSaying_gg => first | k_is | exact rfl)
    (case hole_eInvalidSaying_hd => first | k_is | exact rfl)
    (case hole_eInvalidSaying_xm => first | k_is | exact rfl)
    (case hole_ay4 => k_is)
    (case hole_eInvalidCount_exC => first | k_is | exact rfl)
    (case hole_eInvalidCount_nf_given => first | k_is | exact rfl)
    (case hole_eInvalidCount_nf_code => first | k_is | exact rfl)
    (case hole_eInvalidCount_nf_name => first | k_is | exact rfl)
    (case hole_eInvalidCount_nf_at => first | k_is | exact rfl)
    (case hole_eInvalidCount_nf_line => first | k_is | exact rfl)
    (case hole_eInvalidCount_nf_limit => first | k_is | exact rfl)
    (case hole_eInvalidCount_nf_most => first | k_is | exact rfl)
    (case hole_eInvalidCount_lC => first | k_is | exact rfl)
    (case hole_eInvalidCount_rv => first | k_is | exact rfl)
    (case hole_eInvalidCount_sa => first | k_is | exact rfl)
    (case hole_eInvalidCount_ty => first | k_is | exact rfl)
    (case hole_eInvalidCount_kp => first | k_is | exact rfl)
    (case hole_eInvalidCount_hi => first | k_is | exact rfl)
    (case hole_eInvalidCount_ti => first | k_is | exact rfl)
    (case hole_eInvalidCount_lf => first | k_is | exact rfl)
    (case hole_eInvalidCount_cdi => first | k_is | exact rfl)
    (case hole_eInvalidCount_cel => first | k_is | exact rfl)
    (case hole_eInvalidCount_cod => first | k_is | exact rfl)
    (case hole_eInvalidCount_fil => first | k_is | exact rfl)
    (case hole_eInvalidCount_fe => first | k_is | exact rfl)
    (case hole_eInvalidCount_cD => first | k_is | exact rfl)
    (case hole_eInvalidCount_mro => first | k_is | exact rfl)
    (case hole_eInvalidCount_up => first | k_is | exact rfl)
    (case hole_eInvalidCount_sVE => first | k_is | exact rfl)
    (case hole_eInvalidCount_ga => first | k_is | exact rfl)
    (case hole_eInvalidCount_gg => first | k_is | exact rfl)
    (case hole_eInvalidCount_hd => first | k_is | exact rfl)
    (case hole_eInvalidCount_xm => first | k_is | exact rfl)
    (case hole_ay5 => k_is)
    (case hole_eTooMany_exC => first | k_is | exact rfl)
    (case hole_eTooMany_nf_most => first | k_is | exact rfl)
    (case hole_eTooMany_nf_code => first | k_is | exact rfl)
    (case hole_eTooMany_nf_given => first | k_is | exact rfl)
    (case hole_eTooMany_nf_name => first | k_is | exact rfl)
    (case hole_eTooMany_nf_at => first | k_is | exact rfl)
    (case hole_eTooMany_nf_line => first | k_is | exact rfl)
    (case hole_eTooMany_nf_limit => first | k_is | exact rfl)
    (case hole_eTooMany_lC => first | k_is | exact rfl)
    (case hole_eTooMany_rv => first | k_is | exact rfl)
    (case hole_eTooMany_sa => first | k_is | exact rfl)
    (case hole_eTooMany_ty => first | k_is | exact rfl)
    (case hole_eTooMany_kp => first | k_is | exact rfl)
    (case hole_eTooMany_hi => first | k_is | exact rfl)
    (case hole_eTooMany_ti => first | k_is | exact rfl)
    (case hole_eTooMany_lf => first | k_is | exact rfl)
    (case hole_eTooMany_cdi => first | k_is | exact rfl)
    (case hole_eTooMany_cel => first | k_is | exact rfl)
    (case hole_eTooMany_cod => first | k_is | exact rfl)
    (case hole_eTooMany_fil => first | k_is | exact rfl)
    (case hole_eTooMany_fe => first | k_is | exact rfl)
    (case hole_eTooMany_cD => first | k_is | exact rfl)
    (case hole_eTooMany_mro => first | k_is | exact rfl)
    (case hole_eTooMany_up => first | k_is | exact rfl)
    (case hole_eTooMany_sVE => first | k_is | exact rfl)
    (case hole_eTooMany_ga => first | k_is | exact rfl)
    (case hole_eTooMany_gg => first | k_is | exact rfl)
    (case hole_eTooMany_hd => first | k_is | exact rfl)
    (case hole_eTooMany_xm => first | k_is | exact rfl)
    (case hole_ev_Album_r => first | k_is | exact rfl)
    (case hole_ev_Album_g => first | k_is | exact rfl)
    (case hole_ev_Album_MOST => first | k_is | exact rfl)
    (case hole_ev_Album_SAYINGS => first | k_is | exact rfl)
    (case hole_a0 => k_is)
    (case hole_l0 => k_is)
    (case hole_c0 => k_is)
    (case hole_k0 => k_is)
    (case hole_a1 => k_is)
    (case hole_l1 => k_is)
    (case hole_c1 => k_is)
    (case hole_k1 => k_is)
    (case hole_a2 => k_is)
    (case hole_l2 => k_is)
    (case hole_c2 => k_is)
    (case hole_k2 => k_is)
    (case hole_a3 => k_is)
    (case hole_l3 => k_is)
    (case hole_c3 => k_is)
    (case hole_k3 => k_is)
    (case hole_a4 => k_is)
    (case hole_l4 => k_is)
    (case hole_c4 => k_is)
    (case hole_k4 => k_is)
    (case hole_hf5 => k_is)
    (case hole_fn5 => k_is)
    (case hole_l5 => k_is)
    (case hole_c5 => k_is)
    (case hole_k5 => k_is)
    (case hole_hf6 => k_is)
    (case hole_gg6 => k_is)
    (case hole_tk6 => k_is)
    (case hole_rc6 => k_is)
    (case hole_l6 => k_is)
    (case hole_c6 => k_is)
    (case hole_k6 => k_is)
    (case hole_hf7 => k_is)
    (case hole_fn7 => k_is)
    (case hole_l7 => k_is)
    (case hole_c7 => k_is)
    (case hole_k7 => k_is)
    (case hole_hf8 => k_is)
    (case hole_fn8 => k_is)
    (case hole_l8 => k_is)
    (case hole_c8 => k_is)
    (case hole_k8 => k_is)
    (case hole_a9 => k_is)
    (case hole_l9 => k_is)
    (case hole_c9 => k_is)
    (case hole_k9 => k_is)
    (case hole_a10 => k_is)
    (case hole_l10 => k_is)
    (case hole_c10 => k_is)
    (case hole_k10 => k_is)
    (case hole_a11 => k_is)
    (case hole_l11 => k_is)
    (case hole_c11 => k_is)
    (case hole_k11 => k_is)
    (case hole_a12 => k_is)
    (case hole_l12 => k_is)
    (case hole_c12 => k_is)
    (case hole_k12 => k_is)
    (case hole_a13 => k_is)
    (case hole_l13 => k_is)
    (case hole_c13 => k_is)
    (case hole_k13 => k_is)
    (case hole_a14 => k_is)
    (case hole_l14 => k_is)
    (case hole_c14 => k_is)
    (case hole_k14 => k_is)
    (case hole_a15 => k_is)
    (case hole_l15 => k_is)
    (case hole_c15 => k_is)
    (case hole_k15 => k_is)
    (case hole_a16 => k_is)
    (case hole_l16 => k_is)
    (case hole_c16 => k_is)
    (case hole_k16 => k_is)
    (case hole_a17 => k_is)
    (case hole_l17 => k_is)
    (case hole_c17 => k_is)
    (case hole_k17 => k_is)
    (case hole_a18 => k_is)
    (case hole_l18 => k_is)
    (case hole_c18 => k_is)
    (case hole_k18 => k_is)
    (case hole_a19 => k_is)
    (case hole_l19 => k_is)
    (case hole_c19 => k_is)
    (case hole_k19 => k_is)
    (case hole_a20 => k_is)
    (case hole_l20 => k_is)
    (case hole_c20 => k_is)
    (case hole_k20 => k_is)
    (case hole_a21 => k_is)
    (case hole_l21 => k_is)
    (case hole_c21 => k_is)
    (case hole_k21 => k_is)
    (case hole_a22 => k_is)
    (case hole_l22 => k_is)
    (case hole_c22 => k_is)
    (case hole_k22 => k_is)
    (case hole_hf23 => k_is)
    (case hole_fn23 => k_is)
    (case hole_mk23 => k_is)
    (case hole_kC23 => k_is)
    (case hole_l23 => k_is)
    (case hole_c23 => k_is)
    (case hole_k23 => k_is)
    (case hole_lT23 => k_is)
    (case hole_ln23_1 => k_is)
    (case hole_a24 => k_is)
    (case hole_l24 => k_is)
    (case hole_c24 => k_is)
    (case hole_k24 => k_is)
    (case hole_a25 => k_is)
    (case hole_l25 => k_is)
    (case hole_c25 => k_is)
    (case hole_k25 => k_is)
    (case hole_a26 => k_is)
    (case hole_l26 => k_is)
    (case hole_c26 => k_is)
    (case hole_k26 => k_is)
    (case hole_a27 => k_is)
    (case hole_l27 => k_is)
    (case hole_c27 => k_is)
    (case hole_k27 => k_is)
    (case hole_tb0 => first | k_is | exact rfl)
    (case hole_tb1 => exact rfl)
    (case hole_tb2 => first | k_is | exact rfl)
    (case hole_tb3 => first | k_is | exact rfl)
    (case hole_tb4 => exact PySem.W.km_tabs_of Y _ (by simp))
#print axioms PySem.Challenge.cw_labelroam_k04_albums_refused_holds
