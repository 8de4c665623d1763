import PyProof.Rows.All
import Wide.All
import OpenK.AllK
import Wide.FinOn
import HandS.ForMost
import HandS.Wide
import HandS.IsInst
import HandS.TupLe
import HandS.TupMul
import HandS.SetFor
import HandS.Conv
import HandS.More
import HandS.Defaults
import PyProof.ListMulRoad
import PyProof.FactsAll.tuple_2
import HandS.Head0
import HandS.Head1
import HandS.Head2
import HandS.HeadEnd
import HandS.HeadHook1
import HandS.HeadHook2
import PySem.Challenge.RW_promisewright_k18_whole_worst_shares_by
set_option Elab.async false
set_option linter.all false
set_option autoImplicit false
set_option maxRecDepth 100000
namespace DL
open PySem PySem.Spec
open PyProof.Rows hiding St
open L2

/-! ## data: what a value is, all the way down -/
inductive D where
  | non | bl (b : Bool) | int (i : Int) | str (x : Str) | tup (xs : List D) | tupF (xs : List D) | lst (xs : List D) | dct (kvs : List (Str × D)) | tok

mutual
inductive Rp (K : PySem.W.Frag) (s : Addr) (F : Hp) : V → D → Prop
  | non : Rp K s F .non .non
  | bl (b : Bool) : Rp K s F (.bl b) (.bl b)
  | int (i : Int) : Rp K s F (.int i) (.int i)
  | str (x : Str) : Rp K s F (.str x) (.str x)
  | tok : Rp K s F (.ref s) .tok
  | tup {a : Addr} {vs : List V} {ds : List D} : SqT K F a vs → RpL K s F vs ds → Rp K s F (.ref a) (.tup ds)
  | tupF {a : Addr} {vs : List V} {ds : List D} : F a = some (.tup vs) → RpL K s F vs ds → Rp K s F (.ref a) (.tupF ds)
  | lst {a : Addr} {vs : List V} {ds : List D} : F a = some (.lst vs) → RpL K s F vs ds → Rp K s F (.ref a) (.lst ds)
  | dct {a : Addr} {kvs : List (Key × V)} {ds : List (Str × D)} : F a = some (.dK kvs) → RpK K s F kvs ds → Rp K s F (.ref a) (.dct ds)
inductive RpL (K : PySem.W.Frag) (s : Addr) (F : Hp) : List V → List D → Prop
  | nil : RpL K s F [] []
  | cons {v : V} {d : D} {vs : List V} {ds : List D} : Rp K s F v d → RpL K s F vs ds → RpL K s F (v :: vs) (d :: ds)
inductive RpK (K : PySem.W.Frag) (s : Addr) (F : Hp) : List (Key × V) → List (Str × D) → Prop
  | nil : RpK K s F [] []
  | cons {x : Str} {v : V} {d : D} {vs : List (Key × V)} {ds : List (Str × D)} : Rp K s F v d → RpK K s F vs ds → RpK K s F ((.inr x, v) :: vs) ((x, d) :: ds)
end

theorem Same.sqT {K : PySem.W.Frag} {H H' : Hp} {a : Addr} {xs : List V} (e : Same H H') (h : SqT K H a xs) : SqT K H' a xs := by
  rcases h with (h | ⟨o, h⟩) | h
  · exact .inl (.inl (e _ _ h))
  · exact .inl (.inr ⟨o, e _ _ h⟩)
  · exact .inr h

mutual
theorem Rp.mono {K : PySem.W.Frag} {s : Addr} {F F' : Hp} (m : Same F F') : ∀ (d : D) (v : V), Rp K s F v d → Rp K s F' v d
  | .non, _, h => by cases h; exact .non
  | .bl b, _, h => by cases h; exact .bl b
  | .int i, _, h => by cases h; exact .int i
  | .str x, _, h => by cases h; exact .str x
  | .tok, _, h => by cases h; exact .tok
  | .tup ds, _, h => by
    cases h with
    | tup h1 h2 => exact .tup (Same.sqT m h1) (RpL.mono m ds _ h2)
  | .tupF ds, _, h => by
    cases h with
    | tupF h1 h2 => exact .tupF (m _ _ h1) (RpL.mono m ds _ h2)
  | .lst ds, _, h => by
    cases h with
    | lst h1 h2 => exact .lst (m _ _ h1) (RpL.mono m ds _ h2)
  | .dct ds, _, h => by
    cases h with
    | dct h1 h2 => exact .dct (m _ _ h1) (RpK.mono m ds _ h2)
theorem RpL.mono {K : PySem.W.Frag} {s : Addr} {F F' : Hp} (m : Same F F') : ∀ (ds : List D) (vs : List V), RpL K s F vs ds → RpL K s F' vs ds
  | [], _, h => by cases h; exact .nil
  | d :: ds, _, h => by
    cases h with
    | cons h1 h2 => exact .cons (Rp.mono m d _ h1) (RpL.mono m ds _ h2)
theorem RpK.mono {K : PySem.W.Frag} {s : Addr} {F F' : Hp} (m : Same F F') : ∀ (ds : List (Str × D)) (vs : List (Key × V)), RpK K s F vs ds → RpK K s F' vs ds
  | [], _, h => by cases h; exact .nil
  | (x, d) :: ds, _, h => by
    cases h with
    | cons h1 h2 => exact .cons (Rp.mono m d _ h1) (RpK.mono m ds _ h2)
end

section
variable {K : PySem.W.Frag} {s : Addr} {F : Hp}
theorem RpL.length : ∀ {vs : List V} {ds : List D}, RpL K s F vs ds → vs.length = ds.length
  | _, _, .nil => rfl
  | _, _, .cons _ t => congrArg (· + 1) (RpL.length t)
theorem RpL.get : ∀ {vs : List V} {ds : List D} {i : Nat} {d : D}, RpL K s F vs ds → ds[i]? = some d → ∃ v, vs[i]? = some v ∧ Rp K s F v d
  | _, _, _, _, .nil, e => by simp at e
  | _, _, 0, _, .cons r _, e => by simp at e; subst e; exact ⟨_, rfl, r⟩
  | _, _, i + 1, d, .cons _ t, e => by
    obtain ⟨u, h1, h2⟩ := RpL.get (i := i) (d := d) t (by simpa using e)
    exact ⟨u, by simpa using h1, h2⟩
theorem RpL.append : ∀ {vs ws : List V} {ds es : List D}, RpL K s F vs ds → RpL K s F ws es → RpL K s F (vs ++ ws) (ds ++ es)
  | _, _, _, _, .nil, h => h
  | _, _, _, _, .cons r t, h => .cons r (RpL.append t h)
theorem RpL.set {v : V} {d : D} (r : Rp K s F v d) : ∀ {vs : List V} {ds : List D} (i : Nat), RpL K s F vs ds → RpL K s F (vs.set i v) (ds.set i d)
  | _, _, _, .nil => .nil
  | _, _, 0, .cons _ t => .cons r t
  | _, _, i + 1, .cons q t => .cons q (RpL.set r i t)
theorem RpL.eraseIdx : ∀ {vs : List V} {ds : List D} (i : Nat), RpL K s F vs ds → RpL K s F (vs.eraseIdx i) (ds.eraseIdx i)
  | _, _, _, .nil => .nil
  | _, _, 0, .cons _ t => t
  | _, _, i + 1, .cons q t => .cons q (RpL.eraseIdx i t)
theorem RpL.take : ∀ {vs : List V} {ds : List D} (n : Nat), RpL K s F vs ds → RpL K s F (vs.take n) (ds.take n)
  | _, _, 0, _ => .nil
  | _, _, _ + 1, .nil => .nil
  | _, _, n + 1, .cons r t => .cons r (RpL.take n t)
theorem RpL.drop : ∀ {vs : List V} {ds : List D} (n : Nat), RpL K s F vs ds → RpL K s F (vs.drop n) (ds.drop n)
  | _, _, 0, h => h
  | _, _, _ + 1, .nil => .nil
  | _, _, n + 1, .cons _ t => RpL.drop n t
theorem RpL.dropLast : ∀ {vs : List V} {ds : List D}, RpL K s F vs ds → RpL K s F vs.dropLast ds.dropLast
  | _, _, .nil => .nil
  | _, _, .cons r .nil => .nil
  | _, _, .cons r (.cons q t) => .cons r (RpL.dropLast (.cons q t))
theorem RpL.rep {vs : List V} {ds : List D} (h : RpL K s F vs ds) : ∀ n : Nat, RpL K s F (List.replicate n vs).flatten (List.replicate n ds).flatten
  | 0 => .nil
  | n + 1 => by
    rw [List.replicate_succ, List.replicate_succ, List.flatten_cons, List.flatten_cons]
    exact h.append (RpL.rep h n)
theorem RpL.ints : ∀ ns : List Int, RpL K s F (ns.map V.int) (ns.map D.int)
  | [] => .nil
  | n :: r => .cons (.int n) (RpL.ints r)
end

/-! ## the state of a run: what is kept (B), what is laid for good (F), the token (s, c) -/
/-- the token: a list [k, ref c], c a list of whole numbers from 0 on -/
structure TkOk (s c : Addr) (H : Hp) : Prop where
  ne : s ≠ c
  ex : ∃ (k : Int) (cells : List Int), H s = some (.lst [.int k, .ref c]) ∧ H c = some (.lst (cells.map V.int)) ∧ 0 ≤ k ∧ 0 < cells.length ∧ cells.length ≤ 63 ∧ ∀ z ∈ cells, 0 ≤ z
structure Bk where
  s : Addr
  c : Addr
  B : Hp
structure RB (b : Bk) (F H : Hp) : Prop where
  keep : Same b.B H
  fz : Same F H
  tk : TkOk b.s b.c H
  bs : b.B b.s = none
  bc : b.B b.c = none
  fs : F b.s = none
  fc : F b.c = none
/-- what a thing of one's own holds: a list; a dict with tuple keys; a list of lists that are one's own too -/
inductive OC where
  | lst (xs : List D) | dt (kvs : List (List Key × D)) | lls (qs : List (Addr × List D))
/-- the addresses that it stands at -/
def OC.fp (p : Addr) : OC → List Addr
  | .lst _ => [p]
  | .dt _ => [p]
  | .lls qs => p :: qs.map (·.1)
inductive RpT (K : PySem.W.Frag) (s : Addr) (F : Hp) : List (List Key × V) → List (List Key × D) → Prop
  | nil : RpT K s F [] []
  | cons {k : List Key} {v : V} {d : D} {vs : List (List Key × V)} {ds : List (List Key × D)} : Rp K s F v d → RpT K s F vs ds → RpT K s F ((k, v) :: vs) ((k, d) :: ds)
theorem RpT.mono {K : PySem.W.Frag} {s : Addr} {F F' : Hp} (m : Same F F') : ∀ {vs : List (List Key × V)} {ds : List (List Key × D)}, RpT K s F vs ds → RpT K s F' vs ds
  | _, _, .nil => .nil
  | _, _, .cons h t => .cons (Rp.mono m _ _ h) (RpT.mono m t)
def OcAt (K : PySem.W.Frag) (s : Addr) (F H : Hp) (p : Addr) : OC → Prop
  | .lst xs => ∃ vs, H p = some (.lst vs) ∧ RpL K s F vs xs
  | .dt kvs => ∃ vs, H p = some (.dT vs) ∧ RpT K s F vs kvs
  | .lls qs => H p = some (.lst (qs.map fun q => V.ref q.1)) ∧ (∀ q ∈ qs, ∃ vs, H q.1 = some (.lst vs) ∧ RpL K s F vs q.2) ∧ (p :: qs.map (·.1)).Nodup
theorem OcAt.mono {K : PySem.W.Frag} {s : Addr} {F F' H H' : Hp} {p : Addr} {c : OC} (h : OcAt K s F H p c) (m : Same F F') (k : ∀ a ∈ c.fp p, ∀ o, H a = some o → H' a = some o) : OcAt K s F' H' p c := by
  cases c with
  | lst xs =>
    obtain ⟨vs, h1, h2⟩ := h
    exact ⟨vs, k p (List.mem_singleton.mpr rfl) _ h1, RpL.mono m _ _ h2⟩
  | dt kvs =>
    obtain ⟨vs, h1, h2⟩ := h
    exact ⟨vs, k p (List.mem_singleton.mpr rfl) _ h1, h2.mono m⟩
  | lls qs =>
    obtain ⟨h1, h2, h3⟩ := h
    refine ⟨k p List.mem_cons_self _ h1, fun q hq => ?_, h3⟩
    obtain ⟨vs, h4, h5⟩ := h2 q hq
    exact ⟨vs, k q.1 (List.mem_cons_of_mem _ (List.mem_map_of_mem hq)) _ h4, RpL.mono m _ _ h5⟩
theorem OcAt.some {K : PySem.W.Frag} {s : Addr} {F H : Hp} {p : Addr} {c : OC} (h : OcAt K s F H p c) {a : Addr} (ha : a ∈ c.fp p) : ∃ o, H a = some o := by
  cases c with
  | lst xs =>
    obtain ⟨vs, h1, h2⟩ := h
    rw [List.mem_singleton.mp ha]
    exact ⟨_, h1⟩
  | dt kvs =>
    obtain ⟨vs, h1, h2⟩ := h
    rw [List.mem_singleton.mp ha]
    exact ⟨_, h1⟩
  | lls qs =>
    obtain ⟨h1, h2, h3⟩ := h
    rcases List.mem_cons.mp ha with rfl | ha
    · exact ⟨_, h1⟩
    · obtain ⟨q, hq, rfl⟩ := List.mem_map.mp ha
      obtain ⟨vs, h4, _⟩ := h2 q hq
      exact ⟨_, h4⟩
/-- a slot: nothing known; a value laid for good; a thing of one's own, at an address, that nobody else knows -/
inductive EV where
  | un | fz (d : D) | ow (p : Addr) (c : OC)
abbrev En := List EV
structure RG (K : PySem.W.Frag) (b : Bk) (F H : Hp) (σ : L2.St) (G : En) : Prop extends RB b F H where
  len : σ.length = G.length
  slot : ∀ (i : Nat) (d : D), G[i]? = some (.fz d) → ∃ v, σ[i]? = some (some v) ∧ Rp K b.s F v d
  own : ∀ (i : Nat) (p : Addr) (c : OC), G[i]? = some (.ow p c) → σ[i]? = some (some (.ref p)) ∧ OcAt K b.s F H p c ∧ ∀ a ∈ c.fp p, b.B a = none ∧ F a = none ∧ a ≠ b.s ∧ a ≠ b.c
  dis : ∀ (i j : Nat) (p q : Addr) (c d : OC), G[i]? = some (.ow p c) → G[j]? = some (.ow q d) → i ≠ j → ∀ a ∈ c.fp p, a ∉ d.fp q
/-- F' is F and new things -/
structure Ext (b : Bk) (F F' : Hp) : Prop where
  up : Same F F'
  new : ∀ a o, F' a = some o → F a = some o ∨ b.B a = none
theorem Ext.refl {b : Bk} {F : Hp} : Ext b F F := ⟨fun _ _ h => h, fun _ _ h => .inl h⟩
theorem Ext.trans {b : Bk} {F F1 F2 : Hp} (h : Ext b F F1) (g : Ext b F1 F2) : Ext b F F2 :=
  ⟨fun a o q => g.up a o (h.up a o q), fun a o q => (g.new a o q).elim (fun z => h.new a o z) .inr⟩

theorem same_upd {H : Hp} {p : Addr} {o : HO} (h : H p = none) : Same H (upd H p o) := fun a u q => by rw [upd_ne (ne_of_none q h)]; exact q
theorem TkOk.alloc {s c : Addr} {H : Hp} {p : Addr} {o : HO} (t : TkOk s c H) (h : H p = none) : TkOk s c (upd H p o) := by
  obtain ⟨k, cells, h1, h2, r⟩ := t.ex
  exact ⟨t.ne, k, cells, same_upd h _ _ h1, same_upd h _ _ h2, r⟩
theorem TkOk.other {s c : Addr} {H : Hp} {p : Addr} {o : HO} (t : TkOk s c H) (hs : p ≠ s) (hc : p ≠ c) : TkOk s c (upd H p o) := by
  obtain ⟨k, cells, h1, h2, r⟩ := t.ex
  exact ⟨t.ne, k, cells, by rw [upd_ne (Ne.symm hs)]; exact h1, by rw [upd_ne (Ne.symm hc)]; exact h2, r⟩
theorem TkOk.s_some {s c : Addr} {H : Hp} (t : TkOk s c H) : ∃ o, H s = some o := let ⟨_, _, h1, _⟩ := t.ex; ⟨_, h1⟩
theorem TkOk.c_some {s c : Addr} {H : Hp} (t : TkOk s c H) : ∃ o, H c = some o := let ⟨_, _, _, h2, _⟩ := t.ex; ⟨_, h2⟩

/-- p is a thing of nobody's -/
structure Fresh (K : PySem.W.Frag) (b : Bk) (F H : Hp) (G : En) (p : Addr) (c : OC) : Prop where
  at_ : OcAt K b.s F H p c
  k : ∀ a ∈ c.fp p, b.B a = none ∧ F a = none ∧ a ≠ b.s ∧ a ≠ b.c
  g : ∀ (i : Nat) (q : Addr) (d : OC), G[i]? = some (.ow q d) → ∀ a ∈ c.fp p, a ∉ d.fp q

section
variable {K : PySem.W.Frag} {b : Bk} {F F' H H' : Hp} {σ : St} {G : En} {p : Addr} {o : HO}
theorem RB.fnone (r : RB b F H) (h : H p = none) : F p = none := by
  cases q : F p with
  | none => rfl
  | some u => rw [r.fz _ _ q] at h; cases h
theorem RB.bnone (r : RB b F H) (h : H p = none) : b.B p = none := by
  cases q : b.B p with
  | none => rfl
  | some u => rw [r.keep _ _ q] at h; cases h
theorem RB.nes (r : RB b F H) (h : H p = none) : p ≠ b.s := fun e => by
  obtain ⟨o, q⟩ := r.tk.s_some
  rw [e, q] at h; cases h
theorem RB.nec (r : RB b F H) (h : H p = none) : p ≠ b.c := fun e => by
  obtain ⟨o, q⟩ := r.tk.c_some
  rw [e, q] at h; cases h
theorem RB.alloc (r : RB b F H) (h : H p = none) : RB b F (upd H p o) :=
  ⟨fun a u q => same_upd h a u (r.keep a u q), fun a u q => same_upd h a u (r.fz a u q), r.tk.alloc h, r.bs, r.bc, r.fs, r.fc⟩
theorem RB.allocF (r : RB b F H) (h : H p = none) : RB b (upd F p o) (upd H p o) :=
  ⟨fun a u q => same_upd h a u (r.keep a u q), fun a u q => by
      by_cases e : a = p
      · subst e; rw [upd_same] at q ⊢; exact q
      · rw [upd_ne e] at q ⊢; exact r.fz a u q, r.tk.alloc h, r.bs, r.bc, by rw [upd_ne (Ne.symm (r.nes h))]; exact r.fs, by rw [upd_ne (Ne.symm (r.nec h))]; exact r.fc⟩
theorem RB.extF (r : RB b F H) (h : H p = none) : Ext b F (upd F p o) :=
  ⟨same_upd (r.fnone h), fun a u q => by
    by_cases e : a = p
    · subst e; exact .inr (r.bnone h)
    · rw [upd_ne e] at q; exact .inl q⟩
theorem RG.nop (r : RG K b F H σ G) (h : H p = none) {i : Nat} {q : Addr} {c : OC} (e : G[i]? = some (.ow q c)) : p ∉ c.fp q := fun z => by
  obtain ⟨o, h1⟩ := (r.own i q c e).2.1.some z
  rw [h] at h1; cases h1
theorem RG.alloc (r : RG K b F H σ G) (h : H p = none) : RG K b F (upd H p o) σ G :=
  { toRB := r.toRB.alloc h, len := r.len, slot := r.slot, dis := r.dis, own := fun i q c e => by
      obtain ⟨e1, h1, h3⟩ := r.own i q c e
      exact ⟨e1, h1.mono (fun _ _ z => z) (fun a _ o q => same_upd h a o q), h3⟩ }
theorem RG.allocF (r : RG K b F H σ G) (h : H p = none) : RG K b (upd F p o) (upd H p o) σ G :=
  { toRB := r.toRB.allocF h, len := r.len, dis := r.dis,
    slot := fun i d e => by
      obtain ⟨v, e1, e2⟩ := r.slot i d e
      exact ⟨v, e1, Rp.mono (same_upd (r.fnone h)) d v e2⟩
    own := fun i q c e => by
      obtain ⟨e1, h1, h3⟩ := r.own i q c e
      refine ⟨e1, h1.mono (same_upd (r.fnone h)) (fun a _ o q => same_upd h a o q), fun a ha => ?_⟩
      obtain ⟨k1, k2, k3⟩ := h3 a ha
      exact ⟨k1, by rw [upd_ne (fun z => r.nop h e (by rw [← z]; exact ha))]; exact k2, k3⟩ }
/-- a new list of one's own -/
theorem RG.fresh {vs : List V} {xs : List D} (r : RG K b F H σ G) (h : H p = none) (hx : RpL K b.s F vs xs) : Fresh K b F (upd H p (.lst vs)) G p (.lst xs) :=
  ⟨⟨vs, upd_same, hx⟩, fun a ha => by rw [List.mem_singleton.mp ha]; exact ⟨r.bnone h, r.fnone h, r.nes h, r.nec h⟩, fun i q d e a ha => by rw [List.mem_singleton.mp ha]; exact r.nop h e⟩
/-- a list of nobody's is laid for good -/
theorem RG.freeze {xs : List D} (r : RG K b F H σ G) (f : Fresh K b F H G p (.lst xs)) : ∃ vs, RG K b (upd F p (.lst vs)) H σ G ∧ Ext b F (upd F p (.lst vs)) ∧ RpL K b.s (upd F p (.lst vs)) vs xs := by
  obtain ⟨vs, f1, f2⟩ := f.at_
  obtain ⟨k1, k2, k3, k4⟩ := f.k p (List.mem_singleton.mpr rfl)
  have hs : Same F (upd F p (.lst vs)) := same_upd k2
  refine ⟨vs, { keep := r.keep, fz := fun a u q => ?_, tk := r.tk, bs := r.bs, bc := r.bc, fs := by rw [upd_ne (Ne.symm k3)]; exact r.fs, fc := by rw [upd_ne (Ne.symm k4)]; exact r.fc, len := r.len, dis := r.dis, slot := fun i d e => ?_, own := fun i q c e => ?_ }, ⟨hs, fun a u q => ?_⟩, RpL.mono hs _ _ f2⟩
  · by_cases e : a = p
    · subst e; rw [upd_same] at q; cases q; exact f1
    · rw [upd_ne e] at q; exact r.fz a u q
  · obtain ⟨v, e1, e2⟩ := r.slot i d e
    exact ⟨v, e1, Rp.mono hs d v e2⟩
  · obtain ⟨e1, h1, h3⟩ := r.own i q c e
    refine ⟨e1, h1.mono hs (fun _ _ _ z => z), fun a ha => ?_⟩
    obtain ⟨j1, j2, j3⟩ := h3 a ha
    exact ⟨j1, by rw [upd_ne (fun z => f.g i q c e p (List.mem_singleton.mpr rfl) (by rw [← z]; exact ha))]; exact j2, j3⟩
  · by_cases e : a = p
    · subst e; exact .inr k1
    · rw [upd_ne e] at q; exact .inl q
theorem getset {α : Type} {l : List α} {i j : Nat} {x y : α} (e : (l.set i x)[j]? = some y) : (j = i ∧ y = x ∧ i < l.length) ∨ (j ≠ i ∧ l[j]? = some y) := by
  by_cases hj : i = j
  · subst hj
    by_cases hi : i < l.length
    · rw [List.getElem?_set_self hi] at e; cases e; exact .inl ⟨rfl, rfl, hi⟩
    · rw [List.getElem?_eq_none (by simpa using hi)] at e; cases e
  · rw [List.getElem?_set_ne hj] at e; exact .inr ⟨Ne.symm hj, e⟩
/-- a slot takes a value -/
theorem RG.setFz {i : Nat} {v : V} {d : D} (r : RG K b F H σ G) (h : Rp K b.s F v d) : RG K b F H (σ.set i (some v)) (G.set i (.fz d)) :=
  { toRB := r.toRB, len := by simp [r.len],
    slot := fun j e q => by
      rcases getset q with ⟨rfl, e1, hi⟩ | ⟨hj, q⟩
      · cases e1
        exact ⟨v, by rw [List.getElem?_set_self (by rw [r.len]; exact hi)], h⟩
      · obtain ⟨u, e1, e2⟩ := r.slot j e q
        exact ⟨u, by rw [List.getElem?_set_ne (Ne.symm hj)]; exact e1, e2⟩
    own := fun j p c q => by
      rcases getset q with ⟨_, e1, _⟩ | ⟨hj, q⟩
      · cases e1
      · obtain ⟨e1, e2⟩ := r.own j p c q
        exact ⟨by rw [List.getElem?_set_ne (Ne.symm hj)]; exact e1, e2⟩
    dis := fun j k p q c d' e1 e2 hjk => by
      rcases getset e1 with ⟨_, z, _⟩ | ⟨_, e1⟩
      · cases z
      · rcases getset e2 with ⟨_, z, _⟩ | ⟨_, e2⟩
        · cases z
        · exact r.dis j k p q c d' e1 e2 hjk }
/-- a slot takes a thing of one's own -/
theorem RG.setOw {i : Nat} {c : OC} (r : RG K b F H σ G) (f : Fresh K b F H G p c) : RG K b F H (σ.set i (some (.ref p))) (G.set i (.ow p c)) := by
  refine { toRB := r.toRB, len := by simp [r.len], slot := fun j d q => ?_, own := fun j q d e => ?_, dis := fun j k q q' d d' e1 e2 hjk => ?_ }
  · rcases getset q with ⟨_, z, _⟩ | ⟨hj, q⟩
    · cases z
    · obtain ⟨u, e1, e2⟩ := r.slot j d q
      exact ⟨u, by rw [List.getElem?_set_ne (Ne.symm hj)]; exact e1, e2⟩
  · rcases getset e with ⟨rfl, z, hi⟩ | ⟨hj, e⟩
    · cases z
      exact ⟨by rw [List.getElem?_set_self (by rw [r.len]; exact hi)], f.at_, f.k⟩
    · obtain ⟨e1, e2⟩ := r.own j q d e
      exact ⟨by rw [List.getElem?_set_ne (Ne.symm hj)]; exact e1, e2⟩
  · intro a ha
    rcases getset e1 with ⟨hj, z, _⟩ | ⟨hj, e3⟩
    · cases z
      rcases getset e2 with ⟨hk, _, _⟩ | ⟨_, e4⟩
      · exact absurd (hj.trans hk.symm) hjk
      · exact f.g k _ _ e4 a ha
    · rcases getset e2 with ⟨_, z, _⟩ | ⟨_, e4⟩
      · cases z
        exact fun hb => f.g j _ _ e3 a hb ha
      · exact r.dis j k _ _ _ _ e3 e4 hjk a ha
/-- a thing of one's own is written, at one of its addresses -/
theorem RG.writeAt {i : Nat} {c d : OC} {u : HO} {a : Addr} (r : RG K b F H σ G) (e : G[i]? = some (.ow p c)) (ha : a ∈ c.fp p) (hfp : ∀ x ∈ d.fp p, x ∈ c.fp p) (h : OcAt K b.s F (upd H a u) p d) : RG K b F (upd H a u) σ (G.set i (.ow p d)) := by
  obtain ⟨e1, h1, h3⟩ := r.own i p c e
  obtain ⟨hb, hf, hs, hc⟩ := h3 a ha
  have hi : i < G.length := (List.getElem?_eq_some_iff.mp e).1
  refine { keep := fun x w q => ?_, fz := fun x w q => ?_, tk := r.tk.other hs hc, bs := r.bs, bc := r.bc, fs := r.fs, fc := r.fc, len := by simp [r.len], slot := fun j w q => ?_, own := fun j q w e2 => ?_, dis := fun j k q q' w w' e2 e3 hjk => ?_ }
  · rw [upd_ne (ne_of_none q hb)]; exact r.keep x w q
  · rw [upd_ne (ne_of_none q hf)]; exact r.fz x w q
  · rcases getset q with ⟨_, z, _⟩ | ⟨_, q⟩
    · cases z
    · exact r.slot j w q
  · rcases getset e2 with ⟨rfl, z, _⟩ | ⟨hj, e2⟩
    · cases z
      exact ⟨e1, h, fun x hx => h3 x (hfp x hx)⟩
    · obtain ⟨q1, q2, q4⟩ := r.own j q w e2
      refine ⟨q1, q2.mono (fun _ _ z => z) (fun x hx o z => ?_), q4⟩
      rw [upd_ne (fun y => r.dis j i q p w c e2 e hj x hx (by rw [y]; exact ha))]
      exact z
  · intro x hx
    rcases getset e2 with ⟨hj, z, _⟩ | ⟨hj, e4⟩
    · cases z
      rcases getset e3 with ⟨hk, _, _⟩ | ⟨hk, e5⟩
      · exact absurd (hj.trans hk.symm) hjk
      · exact r.dis i k p q' c w' e e5 (Ne.symm hk) x (hfp x hx)
    · rcases getset e3 with ⟨hk, z, _⟩ | ⟨_, e5⟩
      · cases z
        exact fun hb => r.dis j i q p w c e4 e hj x hx (hfp x hb)
      · exact r.dis j k q q' w w' e4 e5 hjk x hx
theorem RG.write {i : Nat} {ws : List V} {xs ys : List D} (r : RG K b F H σ G) (e : G[i]? = some (.ow p (.lst xs))) (h : RpL K b.s F ws ys) : RG K b F (upd H p (.lst ws)) σ (G.set i (.ow p (.lst ys))) :=
  r.writeAt e (List.mem_singleton.mpr rfl) (fun _ h => h) ⟨ws, upd_same, h⟩
/-- a list of one's own is given up: laid for good -/
theorem RG.give {i : Nat} {xs : List D} (r : RG K b F H σ G) (e : G[i]? = some (.ow p (.lst xs))) : ∃ vs, RG K b (upd F p (.lst vs)) H σ (G.set i (.fz (.lst xs))) ∧ Ext b F (upd F p (.lst vs)) := by
  obtain ⟨e1, ⟨vs, h1, h2⟩, h3⟩ := r.own i p _ e
  obtain ⟨hb, hf, hs, hc⟩ := h3 p (List.mem_singleton.mpr rfl)
  have hi : i < G.length := (List.getElem?_eq_some_iff.mp e).1
  have hs' : Same F (upd F p (.lst vs)) := same_upd hf
  refine ⟨vs, { keep := r.keep, fz := fun a u q => ?_, tk := r.tk, bs := r.bs, bc := r.bc, fs := by rw [upd_ne (Ne.symm hs)]; exact r.fs, fc := by rw [upd_ne (Ne.symm hc)]; exact r.fc, len := by simp [r.len], slot := fun j d q => ?_, own := fun j q c e2 => ?_, dis := fun j k q q' c d e2 e3 hjk => ?_ }, hs', fun a u q => ?_⟩
  · by_cases e : a = p
    · subst e; rw [upd_same] at q; cases q; exact h1
    · rw [upd_ne e] at q; exact r.fz a u q
  · rcases getset q with ⟨rfl, z, _⟩ | ⟨_, q⟩
    · cases z
      exact ⟨_, e1, .lst upd_same (RpL.mono hs' xs vs h2)⟩
    · obtain ⟨v, q1, q2⟩ := r.slot j d q
      exact ⟨v, q1, Rp.mono hs' d v q2⟩
  · rcases getset e2 with ⟨_, z, _⟩ | ⟨hj, e2⟩
    · cases z
    · obtain ⟨q1, q2, q4⟩ := r.own j q c e2
      refine ⟨q1, q2.mono hs' (fun _ _ _ z => z), fun a ha => ?_⟩
      obtain ⟨j1, j2, j3⟩ := q4 a ha
      exact ⟨j1, by rw [upd_ne (fun z => r.dis j i q p c _ e2 e hj a ha (by rw [z]; exact List.mem_singleton.mpr rfl))]; exact j2, j3⟩
  · rcases getset e2 with ⟨_, z, _⟩ | ⟨_, e2⟩
    · cases z
    · rcases getset e3 with ⟨_, z, _⟩ | ⟨_, e3⟩
      · cases z
      · exact r.dis j k q q' c d e2 e3 hjk
  · by_cases e : a = p
    · subst e; exact .inr hb
    · rw [upd_ne e] at q; exact .inl q
/-- a thing that stands (p) is kept from now on; and no more -/
theorem RG.prot {u : HO} (r : RG K b F H σ G) (h : H p = some u) (hb : b.B p = none) (hs : p ≠ b.s) (hc : p ≠ b.c) (hg : ∀ (i : Nat) (q : Addr) (c : OC), G[i]? = some (.ow q c) → p ∉ c.fp q) : RG K { b with B := upd b.B p u } F H σ G :=
  { keep := fun a w e => by
      by_cases ha : a = p
      · subst ha
        have e : upd b.B a u a = some w := e
        rw [upd_same] at e; cases e; exact h
      · have e : upd b.B p u a = some w := e
        rw [upd_ne ha] at e
        exact r.keep a w e
    fz := r.fz, tk := r.tk, bs := by show upd b.B p u b.s = none; rw [upd_ne (Ne.symm hs)]; exact r.bs
    bc := by show upd b.B p u b.c = none; rw [upd_ne (Ne.symm hc)]; exact r.bc
    fs := r.fs, fc := r.fc, len := r.len, slot := r.slot, dis := r.dis
    own := fun i q c e => by
      obtain ⟨e1, e2, e3⟩ := r.own i q c e
      refine ⟨e1, e2, fun a ha => ?_⟩
      obtain ⟨k1, k2⟩ := e3 a ha
      exact ⟨by show upd b.B p u a = none; rw [upd_ne (fun z => hg i q c e (by rw [← z]; exact ha))]; exact k1, k2⟩ }
theorem upd_none {B : Hp} {p a : Addr} {u : HO} (hb : B p = none) (h : upd B p u a = none) : B a = none := by
  cases q : B a with
  | none => rfl
  | some z => rw [upd_ne (ne_of_none q hb), q] at h; cases h
theorem RG.unprot {u : HO} (r : RG K { b with B := upd b.B p u } F H σ G) (hb : b.B p = none) : RG K b F H σ G :=
  { keep := fun a w e => r.keep a w (by show upd b.B p u a = some w; rw [upd_ne (ne_of_none e hb)]; exact e)
    fz := r.fz, tk := r.tk, bs := upd_none hb r.bs, bc := upd_none hb r.bc
    fs := r.fs, fc := r.fc, len := r.len, slot := r.slot, dis := r.dis
    own := fun i q c e => by
      obtain ⟨e1, e2, e3⟩ := r.own i q c e
      exact ⟨e1, e2, fun a ha => ⟨upd_none hb (e3 a ha).1, (e3 a ha).2⟩⟩ }
theorem Ext.unprot {u : HO} (x : Ext { b with B := upd b.B p u } F F') (hb : b.B p = none) : Ext b F F' := ⟨x.up, fun a o e => (x.new a o e).elim .inl fun z => .inr (upd_none hb z)⟩
theorem Ext.kept {u : HO} (x : Ext { b with B := upd b.B p u } F F') (hF : F p = none) : F' p = none := by
  cases q : F' p with
  | none => rfl
  | some z =>
    rcases x.new p z q with q | q
    · rw [hF] at q; cases q
    · have q : upd b.B p u p = none := q
      rw [upd_same] at q; cases q
/-- what stands at p, of nobody's, is written anew and laid for good -/
theorem RG.layAt (r : RG K b F H σ G) (hF : F p = none) (hb : b.B p = none) (hs : p ≠ b.s) (hc : p ≠ b.c) (hg : ∀ (i : Nat) (q : Addr) (c : OC), G[i]? = some (.ow q c) → p ∉ c.fp q) : RG K b (upd F p o) (upd H p o) σ G ∧ Ext b F (upd F p o) := by
  have m : Same F (upd F p o) := same_upd hF
  refine ⟨{ keep := fun a u q => by rw [upd_ne (ne_of_none q hb)]; exact r.keep a u q, fz := fun a u q => ?_, tk := r.tk.other hs hc, bs := r.bs, bc := r.bc, fs := by rw [upd_ne (Ne.symm hs)]; exact r.fs, fc := by rw [upd_ne (Ne.symm hc)]; exact r.fc, len := r.len, dis := r.dis, slot := fun i d e => ?_, own := fun i q c e => ?_ }, m, fun a u q => ?_⟩
  · by_cases e : a = p
    · subst e; rw [upd_same] at q ⊢; exact q
    · rw [upd_ne e] at q ⊢; exact r.fz a u q
  · obtain ⟨v, e1, e2⟩ := r.slot i d e
    exact ⟨v, e1, Rp.mono m d v e2⟩
  · obtain ⟨e1, h1, h3⟩ := r.own i q c e
    have ne : ∀ a ∈ c.fp q, a ≠ p := fun a ha z => hg i q c e (by rw [← z]; exact ha)
    refine ⟨e1, h1.mono m (fun a ha o z => by rw [upd_ne (ne a ha)]; exact z), fun a ha => ?_⟩
    obtain ⟨j1, j2, j3⟩ := h3 a ha
    exact ⟨j1, by rw [upd_ne (ne a ha)]; exact j2, j3⟩
  · by_cases e : a = p
    · subst e; exact .inr hb
    · rw [upd_ne e] at q; exact .inl q
end
end DL
set_option Elab.async false
set_option linter.all false
set_option autoImplicit false
set_option maxRecDepth 100000
namespace DL
open PySem PySem.Spec
open PyProof.Rows hiding St
open L2

/-! ## data as the library's plain data, for == -/
mutual
def D.py : D → PyData
  | .non => .none
  | .bl b => .bool b
  | .int i => .int i
  | .str x => .str x
  | .tup xs => .tuple (D.pys xs)
  | .tupF xs => .tuple (D.pys xs)
  | .lst xs => .list (D.pys xs)
  | .dct _ => .none
  | .tok => .none
def D.pys : List D → List PyData
  | [] => []
  | d :: ds => D.py d :: D.pys ds
end
/-- plain data, at most n deep -/
def D.pl : Nat → D → Bool
  | 0, _ => false
  | n + 1, d => match d with
    | .non | .bl _ | .int _ => true
    | .str x => x.cps.all (· < 0x110000)
    | .tup xs | .tupF xs | .lst xs => xs.all (D.pl n)
    | _ => false
/-- == on data -/
def D.eqv (d e : D) : Bool := PyData.eqv d.py e.py
theorem D.pys_eq : ∀ ds : List D, D.pys ds = ds.map D.py
  | [] => rfl
  | d :: ds => by rw [D.pys, D.pys_eq ds]; rfl
theorem py_lay : ∀ (n : Nat) (d : D), D.pl n d = true → d.py.canLay0 = true ∧ d.py.depth ≤ n + 1
  | 0, d, h => by cases h
  | n + 1, d, h => by
    have all : ∀ xs : List D, xs.all (D.pl n) = true → PyData.canLayAll0 (D.pys xs) = true ∧ PyData.depthAll (D.pys xs) ≤ n + 1 := by
      intro xs
      induction xs with
      | nil => intro _; exact ⟨rfl, Nat.zero_le _⟩
      | cons x xs ih =>
        intro h
        rw [List.all_cons, Bool.and_eq_true] at h
        obtain ⟨h1, h2⟩ := py_lay n x h.1
        obtain ⟨h3, h4⟩ := ih h.2
        refine ⟨?_, ?_⟩
        · show (PyData.canLay0 x.py && PyData.canLayAll0 (D.pys xs)) = true
          rw [h1, h3]; rfl
        · show max x.py.depth (PyData.depthAll (D.pys xs)) ≤ n + 1
          omega
    cases d with
    | non => exact ⟨rfl, by simp [D.py, PyData.depth]⟩
    | bl b => exact ⟨rfl, by simp [D.py, PyData.depth]⟩
    | int b => exact ⟨rfl, by simp [D.py, PyData.depth]⟩
    | str b => exact ⟨h, by simp [D.py, PyData.depth]⟩
    | tup xs =>
      obtain ⟨h1, h2⟩ := all xs h
      exact ⟨h1, by show PyData.depthAll (D.pys xs) + 1 ≤ n + 1 + 1; omega⟩
    | tupF xs =>
      obtain ⟨h1, h2⟩ := all xs h
      exact ⟨h1, by show PyData.depthAll (D.pys xs) + 1 ≤ n + 1 + 1; omega⟩
    | lst xs =>
      obtain ⟨h1, h2⟩ := all xs h
      exact ⟨h1, by show PyData.depthAll (D.pys xs) + 1 ≤ n + 1 + 1; omega⟩
    | dct xs => cases h
    | tok => cases h
theorem pl_shaped {d : D} (h : D.pl 60 d = true) : SeqAt.shaped d.py = true := by
  obtain ⟨h1, h2⟩ := py_lay 60 d h
  unfold SeqAt.shaped
  rw [h1, Bool.true_and]
  exact decide_eq_true (by omega)
mutual
theorem Rp.dp {K : PySem.W.Frag} {s : Addr} {F H : Hp} (m : Same F H) : ∀ (n : Nat) (d : D) (v : V), D.pl n d = true → Rp K s F v d → Dp K H v d.py
  | 0, _, _, z, _ => by cases z
  | n + 1, d, v, z, h => by
    cases h with
    | non => exact .non
    | bl b => exact .bl b
    | int i => exact .int i
    | str x => exact .str x
    | tok => cases z
    | tup h1 h2 => exact .tup (Same.sqT m h1) (RpL.dp m n _ _ (by simpa [D.pl] using z) h2)
    | tupF h1 h2 => exact .tup (.inl (.inl (m _ _ h1))) (RpL.dp m n _ _ (by simpa [D.pl] using z) h2)
    | lst h1 h2 => exact .lst (.inl (.inl (m _ _ h1))) (RpL.dp m n _ _ (by simpa [D.pl] using z) h2)
    | dct h1 h2 => cases z
  termination_by n _ _ _ _ => (n, 0)
theorem RpL.dp {K : PySem.W.Frag} {s : Addr} {F H : Hp} (m : Same F H) : ∀ (n : Nat) (ds : List D) (vs : List V), (∀ d ∈ ds, D.pl n d = true) → RpL K s F vs ds → DpAll K H vs (D.pys ds)
  | n, [], vs, _, h => by cases h; exact .nil
  | n, d :: ds, vs, z, h => by
    cases h with
    | cons h1 h2 => exact .cons (Rp.dp m n d _ (z d List.mem_cons_self) h1) (RpL.dp m n ds _ (fun e he => z e (List.mem_cons_of_mem _ he)) h2)
  termination_by n ds _ _ _ => (n, ds.length + 1)
end

/-! ## the readings of expressions over data -/
abbrev ED := En → (D → Prop) → Prop
abbrev AD := En → (List D → Prop) → Prop
abbrev BD := En → (Bool → Prop) → Prop

def Snd (K : PySem.W.Frag) (t : TE) (m : ED) : Prop := ∀ (b : Bk) (F H : Hp) (σ : L2.St) (G : En) (Qd : D → Prop) (Q : VK), RG K b F H σ G → m G Qd →
  (∀ v F' H' d, RG K b F' H' σ G → Ext b F F' → Rp K b.s F' v d → Qd d → Q v H') → t σ H Q
def SndA (K : PySem.W.Frag) (t : TA) (m : AD) : Prop := ∀ (b : Bk) (F H : Hp) (σ : L2.St) (G : En) (Qd : List D → Prop) (Q : List V → Hp → Prop), RG K b F H σ G → m G Qd →
  (∀ vs F' H' ds, RG K b F' H' σ G → Ext b F F' → RpL K b.s F' vs ds → Qd ds → Q vs H') → t σ H Q
def SndT (K : PySem.W.Frag) (t : TT) (m : BD) : Prop := ∀ (b : Bk) (F H : Hp) (σ : L2.St) (G : En) (Qd : Bool → Prop) (Q : Bool → Hp → Prop), RG K b F H σ G → m G Qd →
  (∀ c F' H', RG K b F' H' σ G → Ext b F F' → Qd c → Q c H') → t σ H Q
/-- a list that nobody else knows comes -/
def SndF (K : PySem.W.Frag) (t : TE) (m : AD) : Prop := ∀ (b : Bk) (F H : Hp) (σ : L2.St) (G : En) (Qd : List D → Prop) (Q : VK), RG K b F H σ G → m G Qd →
  (∀ p F' H' xs, RG K b F' H' σ G → Ext b F F' → Fresh K b F' H' G p (.lst xs) → Qd xs → Q (.ref p) H') → t σ H Q
/-- a list or a tuple that stands, and how one gets at it: laid for good (k = none), or of one's own at a slot -/
structure SqAt (K : PySem.W.Frag) (s : Addr) (σ : L2.St) (G : En) (F H : Hp) (v : V) (isL : Bool) (o : Option (Nat × Addr)) (xs : List D) : Prop where
  ex : ∃ p, v = .ref p ∧ (match o with
    | none => ∃ vs, (if isL = true then F p = some (.lst vs) else SqT K F p vs) ∧ RpL K s F vs xs
    | some (i, q) => q = p ∧ isL = true ∧ G[i]? = some (.ow p (.lst xs)))
abbrev QD := En → (Bool → Option (Nat × Addr) → List D → Prop) → Prop
def SndQ (K : PySem.W.Frag) (t : TE) (m : QD) : Prop := ∀ (b : Bk) (F H : Hp) (σ : L2.St) (G : En) (Qd : Bool → Option (Nat × Addr) → List D → Prop) (Q : VK), RG K b F H σ G → m G Qd →
  (∀ v F' H' l o xs, RG K b F' H' σ G → Ext b F F' → SqAt K b.s σ G F' H' v l o xs → Qd l o xs → Q v H') → t σ H Q

structure DE (X : Cx) (e : Expr) (m : ED) : Prop where
  ex : ∃ t, PE X e t ∧ Snd X.K t m
noncomputable def DE.t {X : Cx} (e : Expr) (m : ED) (h : DE X e m) : TE := Classical.choose h.ex
theorem DE.pe {X : Cx} {e : Expr} {m : ED} (h : DE X e m) : PE X e (DL.DE.t e m h) := (Classical.choose_spec h.ex).1
theorem DE.sn {X : Cx} {e : Expr} {m : ED} (h : DE X e m) : Snd X.K (DL.DE.t e m h) m := (Classical.choose_spec h.ex).2
structure DA (X : Cx) (es : List Expr) (m : AD) : Prop where
  ex : ∃ t, PA X es t ∧ SndA X.K t m
noncomputable def DA.t {X : Cx} (es : List Expr) (m : AD) (h : DA X es m) : TA := Classical.choose h.ex
theorem DA.pe {X : Cx} {es : List Expr} {m : AD} (h : DA X es m) : PA X es (DL.DA.t es m h) := (Classical.choose_spec h.ex).1
theorem DA.sn {X : Cx} {es : List Expr} {m : AD} (h : DA X es m) : SndA X.K (DL.DA.t es m h) m := (Classical.choose_spec h.ex).2
structure DT (X : Cx) (e : Expr) (m : BD) : Prop where
  ex : ∃ t, PT X e t ∧ SndT X.K t m
noncomputable def DT.t {X : Cx} (e : Expr) (m : BD) (h : DT X e m) : TT := Classical.choose h.ex
theorem DT.pe {X : Cx} {e : Expr} {m : BD} (h : DT X e m) : PT X e (DL.DT.t e m h) := (Classical.choose_spec h.ex).1
theorem DT.sn {X : Cx} {e : Expr} {m : BD} (h : DT X e m) : SndT X.K (DL.DT.t e m h) m := (Classical.choose_spec h.ex).2
structure DW (X : Cx) (e : Expr) (m : BD) : Prop where
  ex : ∃ t, PW X e t ∧ SndT X.K t m
noncomputable def DW.t {X : Cx} (e : Expr) (m : BD) (h : DW X e m) : TT := Classical.choose h.ex
theorem DW.pe {X : Cx} {e : Expr} {m : BD} (h : DW X e m) : PW X e (DL.DW.t e m h) := (Classical.choose_spec h.ex).1
theorem DW.sn {X : Cx} {e : Expr} {m : BD} (h : DW X e m) : SndT X.K (DL.DW.t e m h) m := (Classical.choose_spec h.ex).2
structure DF (X : Cx) (e : Expr) (m : AD) : Prop where
  ex : ∃ t, PE X e t ∧ SndF X.K t m
noncomputable def DF.t {X : Cx} (e : Expr) (m : AD) (h : DF X e m) : TE := Classical.choose h.ex
theorem DF.pe {X : Cx} {e : Expr} {m : AD} (h : DF X e m) : PE X e (DL.DF.t e m h) := (Classical.choose_spec h.ex).1
theorem DF.sn {X : Cx} {e : Expr} {m : AD} (h : DF X e m) : SndF X.K (DL.DF.t e m h) m := (Classical.choose_spec h.ex).2
structure DQ (X : Cx) (e : Expr) (m : QD) : Prop where
  ex : ∃ t, PE X e t ∧ SndQ X.K t m
noncomputable def DQ.t {X : Cx} (e : Expr) (m : QD) (h : DQ X e m) : TE := Classical.choose h.ex
theorem DQ.pe {X : Cx} {e : Expr} {m : QD} (h : DQ X e m) : PE X e (DL.DQ.t e m h) := (Classical.choose_spec h.ex).1
theorem DQ.sn {X : Cx} {e : Expr} {m : QD} (h : DQ X e m) : SndQ X.K (DL.DQ.t e m h) m := (Classical.choose_spec h.ex).2

section
variable {K : PySem.W.Frag}
/-! ### names, constants -/
def mVar (i : Nat) : ED := fun G Q => match G[i]? with
  | some (.fz d) => Q d
  | _ => False
theorem snd_var (i : Nat) : Snd K (tVar i) (mVar i) := by
  intro b F H σ G Qd Q r h k
  unfold mVar at h
  split at h
  · rename_i d e
    obtain ⟨v, e1, e2⟩ := r.slot i d e
    exact ⟨v, e1, k v F H d r .refl e2 h⟩
  · exact h.elim
def mC (d : D) : ED := fun _ Q => Q d
theorem snd_c {v : V} {d : D} (h : ∀ s F, Rp K s F v d) : Snd K (tC v) (mC d) := fun b F H σ G Qd Q r q k => k v F H d r .refl (h _ _) q
/-! ### arguments, displays -/
def mNil : AD := fun _ Q => Q []
def mCons (m : ED) (r : AD) : AD := fun G Q => m G fun d => r G fun ds => Q (d :: ds)
theorem snd_nil : SndA K tNil mNil := fun b F H σ G Qd Q r h k => k [] F H [] r .refl .nil h
theorem snd_cons {t : TE} {m : ED} {tr : TA} {mr : AD} (h1 : Snd K t m) (h2 : SndA K tr mr) : SndA K (tCons t tr) (mCons m mr) := by
  intro b F H σ G Qd Q r h k
  refine h1 b F H σ G _ _ r h fun v F1 H1 d r1 x1 p1 q1 => ?_
  refine h2 b F1 H1 σ G _ _ r1 q1 fun vs F2 H2 ds r2 x2 p2 q2 => ?_
  exact k _ F2 H2 _ r2 (x1.trans x2) (.cons (Rp.mono x2.up d v p1) p2) q2
theorem line1000 {n : Nat} (h : n ≤ 1000000) : n ≤ sizeLine := by rw [sizeLine_eq]; omega
def mTup (m : AD) : ED := fun G Q => m G fun ds => ds.length ≤ 1000000 ∧ Q (.tup ds)
def mLst (m : AD) : AD := fun G Q => m G fun ds => ds.length ≤ 1000000 ∧ Q ds
theorem snd_tup {t : TA} {m : AD} (h1 : SndA K t m) : Snd K (tTup t) (mTup m) := by
  intro b F H σ G Qd Q r h k
  refine h1 b F H σ G _ _ r h fun vs F1 H1 ds r1 x1 p1 q1 => ?_
  refine ⟨line1000 (by rw [p1.length]; exact q1.1), fun p hp => ?_⟩
  exact k _ (upd F1 p (.tup vs)) _ _ (r1.allocF hp) (x1.trans (r1.extF hp)) (.tup (SqT.of upd_same) (RpL.mono (same_upd (r1.fnone hp)) ds vs p1)) q1.2
theorem sndf_lst {t : TA} {m : AD} (h1 : SndA K t m) : SndF K (tLst t) (mLst m) := by
  intro b F H σ G Qd Q r h k
  refine h1 b F H σ G _ _ r h fun vs F1 H1 ds r1 x1 p1 q1 => ?_
  refine ⟨line1000 (by rw [p1.length]; exact q1.1), fun p hp => ?_⟩
  exact k p F1 _ ds (r1.alloc hp) x1 (r1.fresh hp p1) q1.2
/-- a new list, laid for good -/
def mFz (m : AD) : ED := fun G Q => m G fun ds => Q (.lst ds)
theorem snd_fz {t : TE} {m : AD} (h1 : SndF K t m) : Snd K t (mFz m) := by
  intro b F H σ G Qd Q r h k
  refine h1 b F H σ G _ _ r h fun p F1 H1 ds r1 x1 f1 q1 => ?_
  obtain ⟨vs, r2, x2, p2⟩ := r1.freeze f1
  exact k _ _ _ _ r2 (x1.trans x2) (.lst upd_same p2) q1
/-! ### operators -/
/-- nothing new, or one new thing laid for good -/
def Step (F H F' H' : Hp) : Prop := (F' = F ∧ H' = H) ∨ ∃ p o, H p = none ∧ F' = upd F p o ∧ H' = upd H p o
theorem RG.step {b : Bk} {F H F' H' : Hp} {σ : L2.St} {G : En} (r : RG K b F H σ G) (st : Step F H F' H') : RG K b F' H' σ G ∧ Ext b F F' := by
  rcases st with ⟨rfl, rfl⟩ | ⟨p, o, hp, rfl, rfl⟩
  · exact ⟨r, .refl⟩
  · exact ⟨r.allocF hp, r.extF hp⟩
abbrev OD := D → D → (D → Prop) → Prop
def SndO (K : PySem.W.Frag) (r : R2) (m : OD) : Prop := ∀ (b : Bk) (F H : Hp) (v w : V) (d e : D) (Qd : D → Prop) (Q : VK), RB b F H → Rp K b.s F v d → Rp K b.s F w e → m d e Qd →
  (∀ v' F' H' d', Step F H F' H' → Rp K b.s F' v' d' → Qd d' → Q v' H') → r v w H Q
def mOp (o : OD) (ma mb : ED) : ED := fun G Q => ma G fun d => mb G fun e => o d e Q
theorem snd_op {r : R2} {o : OD} {ta tb : TE} {ma mb : ED} (ho : SndO K r o) (ha : Snd K ta ma) (hb : Snd K tb mb) : Snd K (tOp r ta tb) (mOp o ma mb) := by
  intro b F H σ G Qd Q rg h k
  refine ha b F H σ G _ _ rg h fun v F1 H1 d r1 x1 p1 q1 => ?_
  refine hb b F1 H1 σ G _ _ r1 q1 fun w F2 H2 e r2 x2 p2 q2 => ?_
  refine ho b F2 H2 v w d e _ _ r2.toRB (Rp.mono x2.up d v p1) p2 q2 fun v' F' H' d' st p3 q3 => ?_
  obtain ⟨r3, x3⟩ := r2.step st
  exact k v' F' H' d' r3 ((x1.trans x2).trans x3) p3 q3
def oI0 (g : Int → Int → D) : OD := fun d e Q => match d, e with
  | .int i, .int j => Q (g i j)
  | _, _ => False
def oI (C : Int → Int → Prop) (g : Int → Int → D) : OD := fun d e Q => match d, e with
  | .int i, .int j => C i j ∧ Q (g i j)
  | _, _ => False
theorem sndo_I0 {gv : Int → Int → V} {g : Int → Int → D} (hg : ∀ s F i j, Rp K s F (gv i j) (g i j)) : SndO K (rI0 gv) (oI0 g) := by
  intro b F H v w d e Qd Q r p1 p2 h k
  unfold oI0 at h
  split at h
  · cases p1; cases p2
    exact ⟨_, _, rfl, rfl, k _ F H _ (.inl ⟨rfl, rfl⟩) (hg _ _ _ _) h⟩
  · exact h.elim
theorem sndo_I {C : Int → Int → Prop} {gv : Int → Int → V} {g : Int → Int → D} (hg : ∀ s F i j, Rp K s F (gv i j) (g i j)) : SndO K (rI C gv) (oI C g) := by
  intro b F H v w d e Qd Q r p1 p2 h k
  unfold oI at h
  split at h
  · cases p1; cases p2
    exact ⟨_, _, rfl, rfl, h.1, k _ F H _ (.inl ⟨rfl, rfl⟩) (hg _ _ _ _) h.2⟩
  · exact h.elim
/-- == and != of plain data -/
def oEq : OD := fun d e Q => D.pl 60 d = true ∧ D.pl 60 e = true ∧ Q (.bl (D.eqv d e))
def oNe : OD := fun d e Q => D.pl 60 d = true ∧ D.pl 60 e = true ∧ Q (.bl (!D.eqv d e))
theorem sndo_eq : SndO K (rEqD K) oEq := by
  intro b F H v w d e Qd Q r p1 p2 h k
  obtain ⟨h1, h2, h3⟩ := h
  exact ⟨d.py, e.py, Rp.dp r.fz 60 d v h1 p1, Rp.dp r.fz 60 e w h2 p2, pl_shaped h1, pl_shaped h2, k _ F H _ (.inl ⟨rfl, rfl⟩) (.bl _) h3⟩
theorem sndo_ne : SndO K (rNeD K) oNe := by
  intro b F H v w d e Qd Q r p1 p2 h k
  obtain ⟨h1, h2, h3⟩ := h
  exact ⟨d.py, e.py, Rp.dp r.fz 60 d v h1 p1, Rp.dp r.fz 60 e w h2 p2, pl_shaped h1, pl_shaped h2, k _ F H _ (.inl ⟨rfl, rfl⟩) (.bl _) h3⟩
def D.isNon : D → Bool
  | .non => true
  | _ => false
theorem Rp.isNon {s : Addr} {F : Hp} {v : V} {d : D} (h : Rp K s F v d) : decide (v = .non) = d.isNon := by
  cases h <;> first | rfl | exact decide_eq_false (fun z => nomatch z)
def oIsN : OD := fun d e Q => match e with
  | .non => Q (.bl d.isNon)
  | _ => False
def oNotN : OD := fun d e Q => match e with
  | .non => Q (.bl (!d.isNon))
  | _ => False
theorem sndo_isN : SndO K (fun x y H Q => y = .non ∧ Q (.bl (decide (x = .non))) H) oIsN := by
  intro b F H v w d e Qd Q r p1 p2 h k
  unfold oIsN at h
  split at h
  · cases p2
    exact ⟨rfl, by rw [p1.isNon]; exact k _ F H _ (.inl ⟨rfl, rfl⟩) (.bl _) h⟩
  · exact h.elim
theorem sndo_notN : SndO K (fun x y H Q => y = .non ∧ Q (.bl (!decide (x = .non))) H) oNotN := by
  intro b F H v w d e Qd Q r p1 p2 h k
  unfold oNotN at h
  split at h
  · cases p2
    exact ⟨rfl, by rw [p1.isNon]; exact k _ F H _ (.inl ⟨rfl, rfl⟩) (.bl _) h⟩
  · exact h.elim
/-- is, is not, of two bools -/
def oIsB : OD := fun d e Q => match d, e with
  | .bl i, .bl j => Q (.bl (decide (i = j)))
  | _, _ => False
def oIsNotB : OD := fun d e Q => match d, e with
  | .bl i, .bl j => Q (.bl (!decide (i = j)))
  | _, _ => False
theorem sndo_isB : SndO K (fun x y H Q => ∃ a b, x = .bl a ∧ y = .bl b ∧ Q (.bl (decide (a = b))) H) oIsB := by
  intro b F H v w d e Qd Q r p1 p2 h k
  unfold oIsB at h
  split at h
  · cases p1; cases p2
    exact ⟨_, _, rfl, rfl, k _ F H _ (.inl ⟨rfl, rfl⟩) (.bl _) h⟩
  · exact h.elim
theorem sndo_isNotB : SndO K (fun x y H Q => ∃ a b, x = .bl a ∧ y = .bl b ∧ Q (.bl (!decide (a = b))) H) oIsNotB := by
  intro b F H v w d e Qd Q r p1 p2 h k
  unfold oIsNotB at h
  split at h
  · cases p1; cases p2
    exact ⟨_, _, rfl, rfl, k _ F H _ (.inl ⟨rfl, rfl⟩) (.bl _) h⟩
  · exact h.elim
/-! ### subscripts -/
def atD (xs : List D) (i : Int) (Q : D → Prop) : Prop := match atI xs i with
  | some d => Q d
  | none => False
theorem RpL.atI {s : Addr} {F : Hp} {vs : List V} {ds : List D} {i : Int} {d : D} (h : RpL K s F vs ds) (e : L2.atI ds i = some d) : ∃ v, L2.atI vs i = some v ∧ Rp K s F v d := by
  unfold L2.atI at e ⊢
  rw [h.length]
  cases q : ixN ds.length i with
  | none => rw [q] at e; cases e
  | some j =>
    rw [q] at e
    obtain ⟨v, h1, h2⟩ := h.get (i := j) (d := d) e
    exact ⟨v, h1, h2⟩
def mIx (mq : QD) (mi : ED) : ED := fun G Q => mq G fun _ _ xs => mi G fun i => match i with
  | .int i => atD xs i Q
  | _ => False
theorem SqAt.seq {b : Bk} {σ : L2.St} {G : En} {F F' H H' : Hp} {v : V} {l : Bool} {o : Option (Nat × Addr)} {xs : List D} (q : SqAt K b.s σ G F H v l o xs) (r : RG K b F' H' σ G) (x : Ext b F F') :
    ∃ p vs, v = .ref p ∧ (if l = true then SqL K H' p vs else SqT K H' p vs) ∧ RpL K b.s F' vs xs := by
  obtain ⟨p, e, h⟩ := q.ex
  cases o with
  | none =>
    obtain ⟨vs, h1, h2⟩ := h
    refine ⟨p, vs, e, ?_, RpL.mono x.up xs vs h2⟩
    cases l with
    | true => exact SqL.of (r.fz _ _ (x.up _ _ h1))
    | false => exact Same.sqT (fun a o z => r.fz _ _ (x.up _ _ z)) h1
  | some iq =>
    obtain ⟨i, q⟩ := iq
    obtain ⟨rfl, rfl, h⟩ := h
    obtain ⟨_, ⟨vs, h1, h2⟩, _⟩ := r.own i _ _ h
    exact ⟨_, vs, e, SqL.of h1, h2⟩
theorem snd_ix {tq ti : TE} {mq : QD} {mi : ED} (hq : SndQ K tq mq) (hi : Snd K ti mi) : Snd K (tOp (rIx K) tq ti) (mIx mq mi) := by
  intro b F H σ G Qd Q rg h k
  refine hq b F H σ G _ _ rg h fun v F1 H1 l o xs r1 x1 s1 q1 => ?_
  refine hi b F1 H1 σ G _ _ r1 q1 fun w F2 H2 e r2 x2 p2 q2 => ?_
  split at q2
  · rename_i i
    cases p2
    unfold atD at q2
    split at q2
    · rename_i d ed
      obtain ⟨p, vs, rfl, h1, h2⟩ := s1.seq r2 x2
      obtain ⟨u, e1, e2⟩ := h2.atI ed
      have fin := k u F2 H2 d r2 (x1.trans x2) e2 q2
      cases l with
      | true => exact .inl ⟨p, vs, i, u, rfl, rfl, h1, e1, fin⟩
      | false => exact .inr (.inl ⟨p, vs, i, u, rfl, rfl, h1, e1, fin⟩)
    · exact q2.elim
  · exact q2.elim
/-- a value that is a list or a tuple -/
def mSq (m : ED) : QD := fun G Q => m G fun d => match d with
  | .lst xs => Q true none xs
  | .tup xs => Q false none xs
  | _ => False
theorem sndq_of {t : TE} {m : ED} (h : Snd K t m) : SndQ K t (mSq m) := by
  intro b F H σ G Qd Q rg hm k
  refine h b F H σ G _ _ rg hm fun v F1 H1 d r1 x1 p1 q1 => ?_
  split at q1
  · cases p1 with
    | lst h1 h2 => exact k _ F1 H1 true none _ r1 x1 ⟨_, rfl, _, h1, h2⟩ q1
  · cases p1 with
    | tup h1 h2 => exact k _ F1 H1 false none _ r1 x1 ⟨_, rfl, _, h1, h2⟩ q1
  · exact q1.elim
/-- a name of a list of one's own -/
def mOwn (i : Nat) : QD := fun G Q => match G[i]? with
  | some (.ow p (.lst xs)) => Q true (some (i, p)) xs
  | _ => False
theorem sndq_own (i : Nat) : SndQ K (tVar i) (mOwn i) := by
  intro b F H σ G Qd Q r h k
  unfold mOwn at h
  split at h
  · rename_i p xs e
    obtain ⟨e1, _⟩ := r.own i p _ e
    exact ⟨_, e1, k _ F H true (some (i, p)) _ r .refl ⟨p, rfl, rfl, rfl, e⟩ h⟩
  · exact h.elim
/-! ### tests -/
def mTst (m : ED) : BD := fun G Q => m G fun d => match d with
  | .bl c => Q c
  | _ => False
theorem sndt_test {t : TE} {m : ED} (h : Snd K t m) : SndT K (tTest t) (mTst m) := by
  intro b F H σ G Qd Q rg hm k
  refine h b F H σ G _ _ rg hm fun v F1 H1 d r1 x1 p1 q1 => ?_
  split at q1
  · cases p1
    exact ⟨_, rfl, k _ F1 H1 r1 x1 q1⟩
  · exact q1.elim
theorem sndt_tB {t : TE} {m : ED} (h : Snd K t m) : SndT K (tB t) (mTst m) := by
  intro b F H σ G Qd Q rg hm k
  refine h b F H σ G _ _ rg hm fun v F1 H1 d r1 x1 p1 q1 => ?_
  split at q1
  · cases p1
    exact ⟨_, rfl, k _ F1 H1 r1 x1 q1⟩
  · exact q1.elim
def mAnd (m n : BD) : BD := fun G Q => m G fun c => if c = true then n G Q else Q false
def mOr (m n : BD) : BD := fun G Q => m G fun c => if c = true then Q true else n G Q
def mNot (m : BD) : BD := fun G Q => m G fun c => Q (!c)
theorem sndt_and {t u : TT} {m n : BD} (h1 : SndT K t m) (h2 : SndT K u n) : SndT K (tAnd t u) (mAnd m n) := by
  intro b F H σ G Qd Q rg h k
  refine h1 b F H σ G _ _ rg h fun c F1 H1 r1 x1 q1 => ?_
  cases c with
  | true => exact h2 b F1 H1 σ G _ _ r1 q1 fun c F2 H2 r2 x2 q2 => k c F2 H2 r2 (x1.trans x2) q2
  | false => exact k false F1 H1 r1 x1 q1
theorem sndt_or {t u : TT} {m n : BD} (h1 : SndT K t m) (h2 : SndT K u n) : SndT K (tOr t u) (mOr m n) := by
  intro b F H σ G Qd Q rg h k
  refine h1 b F H σ G _ _ rg h fun c F1 H1 r1 x1 q1 => ?_
  cases c with
  | true => exact k true F1 H1 r1 x1 q1
  | false => exact h2 b F1 H1 σ G _ _ r1 q1 fun c F2 H2 r2 x2 q2 => k c F2 H2 r2 (x1.trans x2) q2
theorem sndt_not {t : TT} {m : BD} (h1 : SndT K t m) : SndT K (tNot t) (mNot m) := by
  intro b F H σ G Qd Q rg h k
  exact h1 b F H σ G _ _ rg h fun c F1 H1 r1 x1 q1 => k (!c) F1 H1 r1 x1 q1
/-- and, or, not as values (of bools) -/
def mAndV (m n : ED) : ED := fun G Q => m G fun d => match d with
  | .bl c => if c = true then n G Q else Q (.bl false)
  | _ => False
def mOrV (m n : ED) : ED := fun G Q => m G fun d => match d with
  | .bl c => if c = true then Q (.bl true) else n G Q
  | _ => False
def mNotV (m : ED) : ED := fun G Q => m G fun d => match d with
  | .bl c => Q (.bl (!c))
  | _ => False
theorem snd_andV {t u : TE} {m n : ED} (h1 : Snd K t m) (h2 : Snd K u n) : Snd K (tAndV t u) (mAndV m n) := by
  intro b F H σ G Qd Q rg h k
  refine h1 b F H σ G _ _ rg h fun v F1 H1 d r1 x1 p1 q1 => ?_
  split at q1
  · rename_i c
    cases p1
    refine ⟨c, rfl, ?_⟩
    cases c with
    | true => exact h2 b F1 H1 σ G _ _ r1 q1 fun v F2 H2 d r2 x2 p2 q2 => k v F2 H2 d r2 (x1.trans x2) p2 q2
    | false => exact k _ F1 H1 _ r1 x1 (.bl _) q1
  · exact q1.elim
theorem snd_orV {t u : TE} {m n : ED} (h1 : Snd K t m) (h2 : Snd K u n) : Snd K (tOrV t u) (mOrV m n) := by
  intro b F H σ G Qd Q rg h k
  refine h1 b F H σ G _ _ rg h fun v F1 H1 d r1 x1 p1 q1 => ?_
  split at q1
  · rename_i c
    cases p1
    refine ⟨c, rfl, ?_⟩
    cases c with
    | true => exact k _ F1 H1 _ r1 x1 (.bl _) q1
    | false => exact h2 b F1 H1 σ G _ _ r1 q1 fun v F2 H2 d r2 x2 p2 q2 => k v F2 H2 d r2 (x1.trans x2) p2 q2
  · exact q1.elim
theorem snd_notV {t : TE} {m : ED} (h1 : Snd K t m) : Snd K (tNotV t) (mNotV m) := by
  intro b F H σ G Qd Q rg h k
  refine h1 b F H σ G _ _ rg h fun v F1 H1 d r1 x1 p1 q1 => ?_
  split at q1
  · cases p1
    exact ⟨_, rfl, k _ F1 H1 _ r1 x1 (.bl _) q1⟩
  · exact q1.elim
def mIf (c : BD) (m n : ED) : ED := fun G Q => c G fun c => if c = true then m G Q else n G Q
theorem snd_if {tc : TT} {t u : TE} {mc : BD} {m n : ED} (hc : SndT K tc mc) (h1 : Snd K t m) (h2 : Snd K u n) : Snd K (tIf tc t u) (mIf mc m n) := by
  intro b F H σ G Qd Q rg h k
  refine hc b F H σ G _ _ rg h fun c F1 H1 r1 x1 q1 => ?_
  cases c with
  | true => exact h1 b F1 H1 σ G _ _ r1 q1 fun v F2 H2 d r2 x2 p2 q2 => k v F2 H2 d r2 (x1.trans x2) p2 q2
  | false => exact h2 b F1 H1 σ G _ _ r1 q1 fun v F2 H2 d r2 x2 p2 q2 => k v F2 H2 d r2 (x1.trans x2) p2 q2
/-! ### calls of defs -/
abbrev FS := List D → (D → Prop) → Prop
/-- what a def promises, over data -/
def spD (K : PySem.W.Frag) (f : FS) : Sp := fun vs H Q _ => ∃ (s c : Addr) (F : Hp) (ds : List D) (Qd : D → Prop), TkOk s c H ∧ Same F H ∧ F s = none ∧ F c = none ∧ RpL K s F vs ds ∧ f ds Qd ∧
  ∀ v F' H' d, (∀ a o, a ≠ s → a ≠ c → H a = some o → H' a = some o) → TkOk s c H' → Same F F' → (∀ a o, F' a = some o → F a = some o ∨ H a = none) → Same F' H' → F' s = none → F' c = none → Rp K s F' v d → Qd d → Q v H'
theorem RG.called {b : Bk} {F H F' H' : Hp} {σ : L2.St} {G : En} (r : RG K b F H σ G) (h1 : ∀ a o, a ≠ b.s → a ≠ b.c → H a = some o → H' a = some o) (tk : TkOk b.s b.c H') (h2 : Same F F')
    (h3 : ∀ a o, F' a = some o → F a = some o ∨ H a = none) (h4 : Same F' H') (h5 : F' b.s = none) (h6 : F' b.c = none) : RG K b F' H' σ G ∧ Ext b F F' := by
  refine ⟨{ keep := fun a o e => h1 a o (fun z => ?_) (fun z => ?_) (r.keep a o e), fz := h4, tk := tk, bs := r.bs, bc := r.bc, fs := h5, fc := h6, len := r.len, slot := fun i d e => ?_, own := fun i p c e => ?_, dis := r.dis }, h2, fun a o e => ?_⟩
  · rw [z, r.bs] at e; cases e
  · rw [z, r.bc] at e; cases e
  · obtain ⟨v, e1, e2⟩ := r.slot i d e
    exact ⟨v, e1, Rp.mono h2 d v e2⟩
  · obtain ⟨e1, q1, q2⟩ := r.own i p c e
    refine ⟨e1, q1.mono h2 (fun a ha o z => h1 a o (q2 a ha).2.2.1 (q2 a ha).2.2.2 z), fun a ha => ?_⟩
    obtain ⟨j1, j2, j3⟩ := q2 a ha
    refine ⟨j1, ?_, j3⟩
    cases q : F' a with
    | none => rfl
    | some o =>
      rcases h3 a o q with z | z
      · rw [j2] at z; cases z
      · obtain ⟨u, hu⟩ := q1.some ha
        rw [hu] at z; cases z
  · rcases h3 a o e with z | z
    · exact .inl z
    · exact .inr (r.bnone z)
def mCall (f : FS) (m : AD) : ED := fun G Q => m G fun ds => f ds Q
theorem snd_call {f : FS} {t : TA} {m : AD} (h : SndA K t m) : Snd K (tCall (spD K f) [] E0 t) (mCall f m) := by
  intro b F H σ G Qd Q rg hm k
  refine h b F H σ G _ _ rg hm fun vs F1 H1 ds r1 x1 p1 q1 => ?_
  rw [List.append_nil]
  refine ⟨b.s, b.c, F1, ds, Qd, r1.tk, r1.fz, r1.fs, r1.fc, p1, q1, fun v F' H' d h1 h2 h3 h4 h5 h6 h7 h8 h9 => ?_⟩
  obtain ⟨r2, x2⟩ := r1.called h1 h2 h3 h4 h5 h6 h7
  exact k v F' H' d r2 (x1.trans x2) h8 h9
/-! ### calls of built-ins -/
abbrev CD := List D → (D → Prop) → Prop
def SndC (K : PySem.W.Frag) (r : List V → Hp → VK → Prop) (m : CD) : Prop := ∀ (b : Bk) (F H : Hp) (vs : List V) (ds : List D) (Qd : D → Prop) (Q : VK), RB b F H → RpL K b.s F vs ds → m ds Qd →
  (∀ v' F' H' d', Step F H F' H' → Rp K b.s F' v' d' → Qd d' → Q v' H') → r vs H Q
def mCB (c : CD) (m : AD) : ED := fun G Q => m G fun ds => c ds Q
theorem snd_cb {r : List V → Hp → VK → Prop} {c : CD} {t : TA} {m : AD} (hc : SndC K r c) (h : SndA K t m) : Snd K (tCB r t) (mCB c m) := by
  intro b F H σ G Qd Q rg hm k
  refine h b F H σ G _ _ rg hm fun vs F1 H1 ds r1 x1 p1 q1 => ?_
  refine hc b F1 H1 vs ds _ _ r1.toRB p1 q1 fun v' F' H' d' st p3 q3 => ?_
  obtain ⟨r3, x3⟩ := r1.step st
  exact k v' F' H' d' r3 (x1.trans x3) p3 q3
def cAbs : CD := fun ds Q => match ds with
  | [.int i] => Q (.int (if i < 0 then -i else i))
  | _ => False
theorem RpL.one {s : Addr} {F : Hp} {vs : List V} {d : D} (h : RpL K s F vs [d]) : ∃ v, vs = [v] ∧ Rp K s F v d := by
  cases h with
  | cons h1 h2 => cases h2; exact ⟨_, rfl, h1⟩
theorem sndc_abs : SndC K (fun xs H Q => ∃ i, xs = [.int i] ∧ Q (.int (if i < 0 then -i else i)) H) cAbs := by
  intro b F H vs ds Qd Q r p h k
  unfold cAbs at h
  split at h
  · obtain ⟨v, rfl, p1⟩ := p.one
    cases p1
    exact ⟨_, rfl, k _ F H _ (.inl ⟨rfl, rfl⟩) (.int _) h⟩
  · exact h.elim
def cInt : CD := fun ds Q => match ds with
  | [.int i] => Q (.int i)
  | [.bl k] => Q (.int (if k then 1 else 0))
  | _ => False
theorem sndc_int : SndC K (fun xs H Q => (∃ i, xs = [.int i] ∧ Q (.int i) H) ∨ ∃ k, xs = [.bl k] ∧ Q (.int (if k then 1 else 0)) H) cInt := by
  intro b F H vs ds Qd Q r p h k
  unfold cInt at h
  split at h
  · obtain ⟨v, rfl, p1⟩ := p.one
    cases p1
    exact .inl ⟨_, rfl, k _ F H _ (.inl ⟨rfl, rfl⟩) (.int _) h⟩
  · obtain ⟨v, rfl, p1⟩ := p.one
    cases p1
    exact .inr ⟨_, rfl, k _ F H _ (.inl ⟨rfl, rfl⟩) (.int _) h⟩
  · exact h.elim
end
end DL
set_option Elab.async false
set_option linter.all false
set_option autoImplicit false
set_option maxRecDepth 100000
set_option maxHeartbeats 4000000
/-! more rules for tuples: t + u whatever is empty, t * k for every k, t[a:b] the whole too -/
namespace L2
open PySem PySem.Spec PyProof.Rows
def rCatA (K : PySem.W.Frag) : R2 := fun x y H Q => ∃ a b xs ys, x = .ref a ∧ y = .ref b ∧ SqT K H a xs ∧ SqT K H b ys ∧ xs.length + ys.length ≤ sizeLine ∧
  (xs = [] → Q (.ref b) H) ∧ (xs ≠ [] → ys = [] → Q (.ref a) H) ∧ (xs ≠ [] → ys ≠ [] → ∀ p, H p = none → Q (.ref p) (upd H p (.tup (xs ++ ys))))
theorem op_catA {X : Cx} : OpR X (binaryOp .Add) (rCatA X.K) := by
  intro pins s σ H x y v u Q I rx ry h
  obtain ⟨a, b, xs, ys, rfl, rfl, ha, hb, hz, q0, q1, q2⟩ := h
  by_cases hx : xs = []
  · cases rx
    cases ry
    obtain ⟨its, r1, p1, _⟩ := I.tuple ha
    obtain ⟨its2, r2, p2, _⟩ := I.tuple hb
    obtain ⟨⟨cls, dd, data, sl⟩, ho, hc, n, hd⟩ := id p1
    obtain ⟨⟨cls2, dd2, data2, sl2⟩, ho2, hc2, n2, hd2⟩ := id p2
    simp only at hc hd hc2 hd2
    subst hc hd hc2 hd2
    have hv : its = [] := r1.nil_iff.mpr hx
    exact concat_meets ⟨_, ho, rfl⟩ ⟨_, ho2, rfl⟩ noFill_tuple_add seq_tuple_add PySem.F.slot_tuple_add PySem.F.entry_tuple_add (PySem.F.args_tuple_add_2 _ _)
      (tuple_addW0 a b its.toArray its2.toArray n n2 dd dd2 sl sl2 (by simp [hv])) ⟨ho, ho2, ⟨.ref b, H, I, rfl, q0 hx⟩⟩
  · exact op_catT pins s σ H _ _ v u Q I rx ry ⟨a, b, xs, ys, rfl, rfl, ha, hb, hx, hz, q1 hx, q2 hx⟩
theorem tuple_mul1 (l : Addr) (items : Array Value) (n : Nat) (dd : Option Addr) (sl : Array (Option Value)) (x : Int) (u : Tok) (c0 : (decide (x < -(2 ^ 63)) || decide (x ≥ 2 ^ 63)) = false) (c1 : (items.isEmpty || x == 1) = true) :
    Meets (Builtin.«tuple.__mul__» ⟨[.ref l, .int x u], []⟩) (fun _ R s => s.heap.get? l = some { cls := .type "tuple", dict := dd, data := .seq items n, slots := sl } ∧
      R (.ok (.ret (Value.ref l))) s) :=
  .of_wp fun prog w A R s h => by
    obtain ⟨hp, g, d, tk, os⟩ := s
    obtain ⟨hl, h⟩ := h
    have f1 := AutoSeq1.idx_int
    wp_walk using wpAny_loadPart' hl
    repeat (first
      | (refine wpAny_ite_false (decide_eq_false (by rw [c0]; exact Bool.false_ne_true)) ?_; wp_walk using wpAny_loadPart' hl)
      | (refine wpAny_ite_true (decide_eq_true c1) ?_; wp_walk using wpAny_loadPart' hl))
    all_goals first | exact ⟨_, rfl, h⟩ | skip
theorem tuple_mul0 (l : Addr) (items : Array Value) (n : Nat) (dd : Option Addr) (sl : Array (Option Value)) (x : Int) (u : Tok) (c0 : (decide (x < -(2 ^ 63)) || decide (x ≥ 2 ^ 63)) = false) (c1 : (items.isEmpty || x == 1) = false) (c2 : (decide (x ≤ 0) || items.isEmpty) = true) :
    Meets (Builtin.«tuple.__mul__» ⟨[.ref l, .int x u], []⟩) (fun _ R s => s.heap.get? l = some { cls := .type "tuple", dict := dd, data := .seq items n, slots := sl } ∧
      R (.ok (.ret (Value.ref s.heap.objs.size))) { s with heap := s.heap.push { cls := Value.type "tuple", data := Data.seq #[] }, toks := s.toks }) :=
  .of_wp fun prog w A R s h => by
    obtain ⟨hp, g, d, tk, os⟩ := s
    obtain ⟨hl, h⟩ := h
    have f1 := AutoSeq1.idx_int
    wp_walk using wpAny_loadPart' hl
    repeat (first
      | (refine wpAny_ite_false (decide_eq_false (by rw [c0]; exact Bool.false_ne_true)) ?_; wp_walk using wpAny_loadPart' hl)
      | (refine wpAny_ite_false (decide_eq_false (by rw [c1]; exact Bool.false_ne_true)) ?_; wp_walk using wpAny_loadPart' hl)
      | (refine wpAny_ite_true (decide_eq_true c2) ?_; wp_walk using wpAny_loadPart' hl))
    all_goals first | exact ⟨_, rfl, h⟩ | skip
def rRepA (K : PySem.W.Frag) : R2 := fun x y H Q => ∃ l k xs, x = .ref l ∧ y = .int k ∧ SqT K H l xs ∧ xs ≠ [] ∧ -1000 ≤ k ∧ k ≤ 1000 ∧ xs.length ≤ 1000 ∧ (k = 1 → Q (.ref l) H) ∧ (k ≠ 1 → ∀ p, H p = none → Q (.ref p) (upd H p (.tup (List.replicate k.toNat xs).flatten)))
theorem op_repA {X : Cx} : OpR X (binaryOp .Mult) (rRepA X.K) := by
  intro pins s σ H x y v u Q I rx ry h
  obtain ⟨l, k, xs, rfl, rfl, hT, hne, h0, h2, hz, q1, q2⟩ := h
  by_cases hk : 2 ≤ k
  · exact op_repT pins s σ H _ _ v u Q I rx ry ⟨l, k, xs, rfl, rfl, hT, hne, hk, h2, hz, q2 (by omega)⟩
  cases rx
  obtain ⟨t, rfl⟩ := ry
  obtain ⟨its, r, ⟨⟨cls, dd, data, sl⟩, ho, hc, n, hd⟩, hs⟩ := I.tuple hT
  simp only at hc hd
  subst hc hd
  have hle : its.length = xs.length := r.length.symm
  have hn : its ≠ [] := fun e => hne (by
    rw [e] at hle
    exact List.eq_nil_of_length_eq_zero hle.symm)
  have hi : its.toArray.isEmpty = false := by
    cases its with
    | nil => exact absurd rfl hn
    | cons a b => rfl
  have c0 : (decide (k < -(2 ^ 63)) || decide (k ≥ 2 ^ 63)) = false := by
    rw [decide_eq_false (by omega), decide_eq_false (by omega)] <;> rfl
  by_cases h1 : k = 1
  · have c1 : (its.toArray.isEmpty || k == 1) = true := by
      rw [hi, Bool.false_or]
      exact beq_iff_eq.mpr h1
    exact wpAny_binaryOp_repeat_ref (T := "tuple") (U := "int") (by decide) ⟨_, ho, rfl⟩ (fun s' => typeIs_int s' k t) noFill_tuple_mul F.fills_int_mul F.slot_int_rmul repeat_tuple F.slot_int_index.lookup
      (call_meets F.slot_int_rmul (typeIs_int s k t) F.entry_int_rmul (F.args_int_rmul_2 _ _) (int_rmul_tuple k t l its.toArray n dd sl)
        ⟨ho, rfl, ⟨_, ho, rfl⟩, call_meets F.slot_tuple_mul ⟨_, ho, rfl⟩ F.entry_tuple_mul (F.args_tuple_mul_2 _ _) (tuple_mul1 l its.toArray n dd sl k t c0 c1) ⟨ho, ⟨.ref l, H, I, rfl, q1 h1⟩⟩⟩)
  · have c1 : (its.toArray.isEmpty || k == 1) = false := by
      rw [hi, Bool.false_or]
      exact beq_eq_false_iff_ne.mpr h1
    have c2 : (decide (k ≤ 0) || its.toArray.isEmpty) = true := by
      rw [hi, Bool.or_false]
      exact decide_eq_true (by omega)
    refine wpAny_binaryOp_repeat_ref (T := "tuple") (U := "int") (by decide) ⟨_, ho, rfl⟩ (fun s' => typeIs_int s' k t) noFill_tuple_mul F.fills_int_mul F.slot_int_rmul repeat_tuple F.slot_int_index.lookup
      (call_meets F.slot_int_rmul (typeIs_int s k t) F.entry_int_rmul (F.args_int_rmul_2 _ _) (int_rmul_tuple k t l its.toArray n dd sl)
        ⟨ho, rfl, ⟨_, ho, rfl⟩, call_meets F.slot_tuple_mul ⟨_, ho, rfl⟩ F.entry_tuple_mul (F.args_tuple_mul_2 _ _) (tuple_mul0 l its.toArray n dd sl k t c0 c1 c2) ⟨ho, ?_⟩⟩)
    have e0 : (List.replicate k.toNat xs).flatten = [] := by
      have : k.toNat = 0 := by omega
      rw [this]; rfl
    have q3 := q2 h1
    rw [e0] at q3
    refine ⟨.ref s.heap.objs.size, _, I.laid (t' := s.toks) (o := .tup []) (fun b ob q => Heap.get?_push_of_some _ q) (Nat.le_refl _) ?_, rfl, q3 _ (I.hok.fresh (Nat.le_refl _))⟩
    exact ⟨Nat.zero_le _, [], .nil, IsTup.new _ _⟩
end L2
namespace HT
open PySem PySem.Spec PyProof.Rows
theorem getItem_tuple_whole {prog : Program} {w : World} {A : Around} {E : Value → Shared → Prop} {s : Shared} {t sl : Addr} {items : Array Value} {vl vu : Value} {lo hi : Option Int} {Q : Value → Shared → Prop} (ht : IsTup s.heap t items) (hs : s.heap.IsSliceOf sl vl vu .none) (pl : IsPart vl lo) (pu : IsPart vu hi)
    (hw : sIx items.size 0 lo = 0 ∧ sIx items.size items.size hi = items.size)
    (h : Q (.ref t) s) : wpAny (model prog w) A (getItem (.ref t) (.ref sl)) Q E s := by
  obtain ⟨os, hos, hcs, hds⟩ := id hs
  have hTs : s.TypeIs (.ref sl) "slice" := ⟨os, hos, hcs⟩
  unfold getItem
  try with_reducible refine wpAny_holding ?_
  first | refine wpAny_bind (wpAny_pure ?_) | skip
  refine wpAny_bind (wpAny_sequenceKey ht.typeIs (by decide) ?_)
  refine wpAny_bind (wpAny_callSpecial?_slot (name := Str.ofString "__getitem__") ht.typeIs PyProof.Rows.slot_tuple_getitem
    (wpAny_call_entry PyProof.Rows.slot_tuple_getitem ht.typeIs entry_tuple_getitem ?_ (args_tuple_getitem _ _)))
  show wpAny _ _ (Builtin.Tuple.tupleItemsOf (.ref t) >>= _) _ _ s
  refine wpAny_bind (tupleItemsOf_ ht ?_)
  refine wpAny_bind (wpAny_typeOf hTs ?_)
  rw [if_pos (by decide)]
  refine wpAny_bind (sliceApplied_gen hs pl pu ?_)
  have hno : (((sIx items.size 0 lo : Nat) : Int) == 0 && (1 : Int) == 1 && (sIx items.size items.size hi - sIx items.size 0 lo) == items.size) = true := by
    simp [hw.1, hw.2]
  show wpAny _ _ (if (((sIx items.size 0 lo : Nat) : Int) == 0 && (1 : Int) == 1 && (sIx items.size items.size hi - sIx items.size 0 lo) == items.size) = true then _ else _) _ _ s
  rw [if_pos hno]
  obtain ⟨⟨cls, dd, data, sl2⟩, ho, hc, n, hd⟩ := id ht
  simp only at hc hd
  subst hc hd
  wp_walk using wpAny_loadPart' ho
  all_goals first | exact ⟨_, rfl, wpAny_pure h⟩ | exact ⟨_, rfl, h⟩ | skip
end HT
namespace L2
open PySem PySem.Spec PyProof.Rows
/-- t[lo:hi]: the whole is t itself -/
def rSlA (K : PySem.W.Frag) : V → Option Int → Option Int → Hp → VK → Prop := fun x lo hi H Q => ∃ a xs, x = .ref a ∧ SqT K H a xs ∧
  (cutV xs lo hi = xs → Q (.ref a) H) ∧ ∀ p, H p = none → Q (.ref p) (upd H p (.tup (cutV xs lo hi)))
theorem sl_tupA {X : Cx} : SlR X (rSlA X.K) := by
  intro pins s σ H x v vl vu lo hi sl Q I rx hs pl pu h
  obtain ⟨a, xs, rfl, hx, q1, q2⟩ := h
  by_cases hw : HT.sIx xs.length 0 lo = 0 ∧ HT.sIx xs.length xs.length hi = xs.length
  · cases rx
    obtain ⟨its, r, ht, hz⟩ := I.tuple hx
    have hlen : its.toArray.size = xs.length := by rw [List.size_toArray]; exact r.length.symm
    refine ⟨"tuple", _, PyProof.Rows.slot_tuple_getitem.lookup, ht.typeIs, ?_⟩
    refine HT.getItem_tuple_whole ht hs pl pu (by rw [hlen]; exact hw) ?_
    refine ⟨.ref a, H, I, rfl, q1 ?_⟩
    unfold cutV
    rw [hw.1, hw.2, List.drop_zero, Nat.sub_zero, List.take_length]
  · exact sl_tup pins s σ H _ v vl vu lo hi sl Q I rx hs pl pu ⟨a, xs, rfl, hx, hw, q2⟩
/-- isinstance, any, all stay as the layer has them; a for over a list or a tuple, whichever comes -/
def iSeq (K : PySem.W.Frag) (tl : TE) : TI := fun σ H R => tl σ H fun x H1 => (∃ a, x = .ref a ∧ (∃ xs, SqL K H1 a xs) ∧ R (Itl K a) H1) ∨ (∃ a, x = .ref a ∧ (∃ xs, SqT K H1 a xs) ∧ R (Itt K a) H1)
theorem pi_seq {X : Cx} {tg l : Expr} {tl : TE} (hl : PE X l tl) : PI X tg l (iSeq X.K tl) := by
  refine ⟨fun pins s σ H R I h => ?_⟩
  refine thn (hl.run pins s σ H _ I h) fun v s1 ⟨x, H1, I1, r1, q1⟩ => ?_
  rcases q1 with ⟨a, e, ⟨xs, hq⟩, q⟩ | ⟨a, e, ⟨xs, hq⟩, q⟩
  · subst e
    cases r1
    obtain ⟨its, rv, p, hz⟩ := I1.list hq
    refine wpAny_pyIter_list p.isList ?_
    refine ⟨s1.heap.objs.size, [s1.heap.objs.size], _, _, H1, rfl, I1.kept (t' := s1.toks) fun b o e => Heap.get?_push_of_some _ e, turn_list a _, ⟨_, Heap.get?_push_size _ rfl, rfl, rfl⟩, fun b hb => ?_, q⟩
    have e : b = s1.heap.objs.size := by simpa using hb
    subst e
    exact I1.fpOk (Nat.le_refl _) (I1.hok.fresh (Nat.le_refl _))
  · subst e
    cases r1
    obtain ⟨its, rv, p, hz⟩ := I1.tuple hq
    refine wpAny_pyIter_tuple (show s1.heap.IsTuple a its.toArray from p) ?_
    refine ⟨s1.heap.objs.size, [s1.heap.objs.size], _, _, H1, rfl, I1.kept (t' := s1.toks) fun b o e => Heap.get?_push_of_some _ e, turn_tuple a _, ⟨_, Heap.get?_push_size _ rfl, rfl, rfl⟩, fun b hb => ?_, q⟩
    have e : b = s1.heap.objs.size := by simpa using hb
    subst e
    exact I1.fpOk (Nat.le_refl _) (I1.hok.fresh (Nat.le_refl _))
end L2
set_option Elab.async false
set_option linter.all false
set_option autoImplicit false
set_option maxRecDepth 100000
namespace DL
open PySem PySem.Spec
open PyProof.Rows hiding St
open L2

section
variable {K : PySem.W.Frag}
/-! ### built-ins over a list or a tuple -/
def rLenS (K : PySem.W.Frag) : List V → Hp → VK → Prop := fun xs H Q => ∃ p ys, xs = [.ref p] ∧ (SqL K H p ys ∨ SqT K H p ys) ∧ Q (.int ys.length) H
theorem SqAt.or {b : Bk} {σ : L2.St} {G : En} {F F' H H' : Hp} {v : V} {l : Bool} {o : Option (Nat × Addr)} {xs : List D} (q : SqAt K b.s σ G F H v l o xs) (r : RG K b F' H' σ G) (x : Ext b F F') :
    ∃ p vs, v = .ref p ∧ (SqL K H' p vs ∨ SqT K H' p vs) ∧ RpL K b.s F' vs xs := by
  obtain ⟨p, vs, e, h1, h2⟩ := q.seq r x
  cases l with
  | true => exact ⟨p, vs, e, .inl h1, h2⟩
  | false => exact ⟨p, vs, e, .inr h1, h2⟩
def mLen (mq : QD) : ED := fun G Q => mq G fun _ _ xs => Q (.int xs.length)
theorem snd_len {tq : TE} {mq : QD} (h : SndQ K tq mq) : Snd K (tCB (rLenS K) (tCons tq tNil)) (mLen mq) := by
  intro b F H σ G Qd Q rg hm k
  refine h b F H σ G _ _ rg hm fun v F1 H1 l o xs r1 x1 s1 q1 => ?_
  obtain ⟨p, vs, rfl, h1, h2⟩ := s1.or r1 .refl
  exact ⟨p, vs, rfl, h1, k _ F1 H1 _ r1 x1 (by rw [h2.length]; exact .int _) q1⟩
def rTupO (K : PySem.W.Frag) : List V → Hp → VK → Prop := fun xs H Q => ∃ p ys, xs = [.ref p] ∧ ((SqL K H p ys ∧ ∀ l, H l = none → Q (.ref l) (upd H l (.tup ys))) ∨ (SqT K H p ys ∧ Q (.ref p) H))
def mTupO (mq : QD) : ED := fun G Q => mq G fun _ _ xs => Q (.tup xs)
theorem snd_tupO {tq : TE} {mq : QD} (h : SndQ K tq mq) : Snd K (tCB (rTupO K) (tCons tq tNil)) (mTupO mq) := by
  intro b F H σ G Qd Q rg hm k
  refine h b F H σ G _ _ rg hm fun v F1 H1 l o xs r1 x1 s1 q1 => ?_
  cases l with
  | true =>
    obtain ⟨p, vs, rfl, h1, h2⟩ := s1.seq r1 .refl
    refine ⟨p, vs, rfl, .inl ⟨h1, fun a ha => ?_⟩⟩
    exact k _ _ _ _ (r1.allocF ha) (x1.trans (r1.extF ha)) (.tup (SqT.of upd_same) (RpL.mono (same_upd (r1.fnone ha)) xs vs h2)) q1
  | false =>
    obtain ⟨p, e, h⟩ := s1.ex
    cases o with
    | none =>
      obtain ⟨vs, h1, h2⟩ := h
      exact ⟨p, vs, by rw [e], .inr ⟨Same.sqT r1.fz h1, k _ F1 H1 _ r1 x1 (.tup h1 h2) q1⟩⟩
    | some iq => cases h.2.1
def rLstO (K : PySem.W.Frag) : List V → Hp → VK → Prop := fun xs H Q => ∃ p ys, xs = [.ref p] ∧ (SqL K H p ys ∨ SqT K H p ys) ∧ ∀ l, H l = none → Q (.ref l) (upd H l (.lst ys))
def mLstO (mq : QD) : AD := fun G Q => mq G fun _ _ xs => Q xs
theorem sndf_lstO {tq : TE} {mq : QD} (h : SndQ K tq mq) : SndF K (tCB (rLstO K) (tCons tq tNil)) (mLstO mq) := by
  intro b F H σ G Qd Q rg hm k
  refine h b F H σ G _ _ rg hm fun v F1 H1 l o xs r1 x1 s1 q1 => ?_
  obtain ⟨p, vs, rfl, h1, h2⟩ := s1.or r1 .refl
  exact ⟨p, vs, rfl, h1, fun a ha => k a F1 _ xs (r1.alloc ha) x1 (r1.fresh ha h2) q1⟩
def intsOf : List D → Option (List Int)
  | [] => some []
  | .int i :: r => (intsOf r).map (i :: ·)
  | _ :: _ => none
def blsOf : List D → Option (List Bool)
  | [] => some []
  | .bl i :: r => (blsOf r).map (i :: ·)
  | _ :: _ => none
theorem intsOf_map (ns : List Int) : intsOf (ns.map D.int) = some ns := by
  induction ns with
  | nil => rfl
  | cons n r ih => rw [List.map_cons, intsOf, ih]; rfl
theorem blsOf_map (ns : List Bool) : blsOf (ns.map D.bl) = some ns := by
  induction ns with
  | nil => rfl
  | cons n r ih => rw [List.map_cons, blsOf, ih]; rfl
theorem RpL.intsOf {s : Addr} {F : Hp} : ∀ {vs : List V} {ds : List D} {ns : List Int}, RpL K s F vs ds → DL.intsOf ds = some ns → vs = ns.map V.int
  | _, [], ns, h, e => by cases h; cases e; rfl
  | _, d :: ds, ns, h, e => by
    cases h with
    | cons h1 h2 =>
      cases d with
      | int i =>
        rw [DL.intsOf] at e
        obtain ⟨ms, e1, rfl⟩ := Option.map_eq_some_iff.mp e
        cases h1
        rw [RpL.intsOf h2 e1]; rfl
      | _ => cases e
theorem RpL.blsOf {s : Addr} {F : Hp} : ∀ {vs : List V} {ds : List D} {ns : List Bool}, RpL K s F vs ds → DL.blsOf ds = some ns → vs = ns.map V.bl
  | _, [], ns, h, e => by cases h; cases e; rfl
  | _, d :: ds, ns, h, e => by
    cases h with
    | cons h1 h2 =>
      cases d with
      | bl i =>
        rw [DL.blsOf] at e
        obtain ⟨ms, e1, rfl⟩ := Option.map_eq_some_iff.mp e
        cases h1
        rw [RpL.blsOf h2 e1]; rfl
      | _ => cases e
/-- sum, any, all of a list -/
def mSum (mq : QD) : ED := fun G Q => mq G fun l _ xs => l = true ∧ match intsOf xs with
  | some ns => Q (.int ns.sum)
  | none => False
theorem snd_sum {tq : TE} {mq : QD} (h : SndQ K tq mq) : Snd K (tCB (rSum K) (tCons tq tNil)) (mSum mq) := by
  intro b F H σ G Qd Q rg hm k
  refine h b F H σ G _ _ rg hm fun v F1 H1 l o xs r1 x1 s1 q1 => ?_
  obtain ⟨rfl, q1⟩ := q1
  obtain ⟨p, vs, rfl, h1, h2⟩ := s1.seq r1 .refl
  split at q1
  · rename_i ns e
    refine ⟨p, ns, rfl, by rw [← h2.intsOf e]; exact h1, k _ F1 H1 _ r1 x1 (.int _) q1⟩
  · exact q1.elim
def mAny (mq : QD) : ED := fun G Q => mq G fun l _ xs => l = true ∧ match blsOf xs with
  | some ns => Q (.bl (ns.any id))
  | none => False
def mAll (mq : QD) : ED := fun G Q => mq G fun l _ xs => l = true ∧ match blsOf xs with
  | some ns => Q (.bl (ns.all id))
  | none => False
theorem snd_any {tq : TE} {mq : QD} (h : SndQ K tq mq) : Snd K (tCB (rAny K) (tCons tq tNil)) (mAny mq) := by
  intro b F H σ G Qd Q rg hm k
  refine h b F H σ G _ _ rg hm fun v F1 H1 l o xs r1 x1 s1 q1 => ?_
  obtain ⟨rfl, q1⟩ := q1
  obtain ⟨p, vs, rfl, h1, h2⟩ := s1.seq r1 .refl
  split at q1
  · rename_i ns e
    refine ⟨p, ns, rfl, by rw [← h2.blsOf e]; exact h1, k _ F1 H1 _ r1 x1 (.bl _) q1⟩
  · exact q1.elim
theorem snd_all {tq : TE} {mq : QD} (h : SndQ K tq mq) : Snd K (tCB (rAll K) (tCons tq tNil)) (mAll mq) := by
  intro b F H σ G Qd Q rg hm k
  refine h b F H σ G _ _ rg hm fun v F1 H1 l o xs r1 x1 s1 q1 => ?_
  obtain ⟨rfl, q1⟩ := q1
  obtain ⟨p, vs, rfl, h1, h2⟩ := s1.seq r1 .refl
  split at q1
  · rename_i ns e
    refine ⟨p, ns, rfl, by rw [← h2.blsOf e]; exact h1, k _ F1 H1 _ r1 x1 (.bl _) q1⟩
  · exact q1.elim
/-- xs.index(k), whole numbers, there -/
def mIndex (mq : QD) (mi : ED) : ED := fun G Q => mq G fun l _ xs => l = true ∧ mi G fun d => match d, intsOf xs with
  | .int i, some ns => i ∈ ns ∧ Q (.int (ns.idxOf i))
  | _, _ => False
theorem snd_index {tq ti : TE} {mq : QD} {mi : ED} (hq : SndQ K tq mq) (hi : Snd K ti mi) : Snd K (tBM K "list" (rIndex K) tq (tCons ti tNil)) (mIndex mq mi) := by
  intro b F H σ G Qd Q rg h k
  refine hq b F H σ G _ _ rg h fun v F1 H1 l o xs r1 x1 s1 q1 => ?_
  obtain ⟨rfl, q1⟩ := q1
  obtain ⟨p0, vs0, e0, h0, _⟩ := s1.seq r1 .refl
  refine ⟨by rw [e0]; exact .inl ⟨rfl, _, h0⟩, ?_⟩
  refine hi b F1 H1 σ G _ _ r1 q1 fun w F2 H2 e r2 x2 p2 q2 => ?_
  obtain ⟨p, vs, rfl, h1, h2⟩ := s1.seq r2 x2
  split at q2
  · rename_i i ns e1
    obtain ⟨hm, q2⟩ := q2
    cases p2
    have ev := h2.intsOf e1
    subst ev
    have hl : ns.idxOf i < ns.length := List.idxOf_lt_length_iff.mpr hm
    have hg : ns[ns.idxOf i]? = some i := by
      rw [List.getElem?_eq_getElem hl]
      exact congrArg some (List.getElem_idxOf hl)
    refine ⟨p, ns.map V.int, .int i, ns.idxOf i, .int i, rfl, rfl, h1, rfl, ?_, ?_, ?_, ?_, ?_⟩
    · rw [List.all_eq_true]
      intro z hz
      obtain ⟨y, _, rfl⟩ := List.mem_map.mp hz
      rfl
    · rw [List.getElem?_map, hg]; rfl
    · show eqV (.int i) (.int i) = true
      simp [eqV]
    · intro m z' hmz ez
      rw [List.getElem?_map] at ez
      obtain ⟨y, ey, rfl⟩ := Option.map_eq_some_iff.mp ez
      have hne : y ≠ i := fun e => by
        subst e
        obtain ⟨hm1, hm2⟩ := List.getElem?_eq_some_iff.mp ey
        have := List.not_of_lt_findIdx (p := (· == y)) (xs := ns) (i := m) hmz
        rw [hm2] at this
        simp at this
      show eqV (.int y) (.int i) = false
      simp [eqV, hne]
    · exact k _ F2 H2 _ r2 (x1.trans x2) (.int _) q2
  · exact q2.elim
/-! ### tuples and lists together, repeated, cut -/
def oCatT : OD := fun d e Q => match d, e with
  | .tup xs, .tup ys => xs.length + ys.length ≤ 1000000 ∧ Q (.tup (xs ++ ys))
  | _, _ => False
theorem sndo_catT : SndO K (rCatA K) oCatT := by
  intro b F H v w d e Qd Q r p1 p2 h k
  unfold oCatT at h
  split at h
  · rename_i xs ys
    obtain ⟨hz, h⟩ := h
    cases p1 with
    | tup a1 a2 =>
      cases p2 with
      | tup b1 b2 =>
        rename_i a vs c us
        refine ⟨a, c, vs, us, rfl, rfl, Same.sqT r.fz a1, Same.sqT r.fz b1, line1000 (by rw [a2.length, b2.length]; exact hz), fun e1 => ?_, fun e1 e2 => ?_, fun e1 e2 p hp => ?_⟩
        · subst e1
          cases a2
          exact k _ F H _ (.inl ⟨rfl, rfl⟩) (.tup b1 b2) h
        · subst e2
          cases b2
          rw [List.append_nil] at h
          exact k _ F H _ (.inl ⟨rfl, rfl⟩) (.tup a1 a2) h
        · have m : Same F (upd F p (.tup (vs ++ us))) := same_upd (r.fnone hp)
          exact k _ _ _ _ (.inr ⟨p, _, hp, rfl, rfl⟩) (.tup (SqT.of upd_same) ((RpL.mono m _ _ a2).append (RpL.mono m _ _ b2))) h
  · exact h.elim
def oCatL : OD := fun d e Q => match d, e with
  | .lst xs, .lst ys => xs.length + ys.length ≤ 1000000 ∧ Q (.lst (xs ++ ys))
  | _, _ => False
theorem sndo_catL : SndO K rCat oCatL := by
  intro b F H v w d e Qd Q r p1 p2 h k
  unfold oCatL at h
  split at h
  · rename_i xs ys
    obtain ⟨hz, h⟩ := h
    cases p1 with
    | lst a1 a2 =>
      cases p2 with
      | lst b1 b2 =>
        rename_i a vs c us
        refine ⟨a, c, vs, us, rfl, rfl, r.fz _ _ a1, r.fz _ _ b1, line1000 (by rw [a2.length, b2.length]; exact hz), fun p hp => ?_⟩
        have m : Same F (upd F p (.lst (vs ++ us))) := same_upd (r.fnone hp)
        exact k _ _ _ _ (.inr ⟨p, _, hp, rfl, rfl⟩) (.lst upd_same ((RpL.mono m _ _ a2).append (RpL.mono m _ _ b2))) h
  · exact h.elim
/-- [..] * n: a new list -/
def mRepL (ma mb : ED) : AD := fun G Q => ma G fun d => mb G fun e => match d, e with
  | .lst xs, .int k => -1000000 ≤ k ∧ k ≤ 1000000 ∧ xs.length * k.toNat ≤ 1000000 ∧ Q (List.replicate k.toNat xs).flatten
  | _, _ => False
theorem sndf_repL {ta tb : TE} {ma mb : ED} (ha : Snd K ta ma) (hb : Snd K tb mb) : SndF K (tOp rRep ta tb) (mRepL ma mb) := by
  intro b F H σ G Qd Q rg h k
  refine ha b F H σ G _ _ rg h fun v F1 H1 d r1 x1 p1 q1 => ?_
  refine hb b F1 H1 σ G _ _ r1 q1 fun w F2 H2 e r2 x2 p2 q2 => ?_
  split at q2
  · obtain ⟨h1, h2, h3, q2⟩ := q2
    cases Rp.mono x2.up _ v p1 with
    | lst a1 a2 =>
      cases p2
      refine ⟨_, _, _, rfl, rfl, r2.fz _ _ a1, by omega, by omega, line1000 (by rw [a2.length]; exact h3), fun p hp => ?_⟩
      exact k p F2 _ _ (r2.alloc hp) (x1.trans x2) (r2.fresh hp (a2.rep _)) q2
  · exact q2.elim
def oRepT : OD := fun d e Q => match d, e with
  | .tup xs, .int k => xs ≠ [] ∧ -1000 ≤ k ∧ k ≤ 1000 ∧ xs.length ≤ 1000 ∧ Q (.tup (List.replicate k.toNat xs).flatten)
  | _, _ => False
theorem sndo_repT : SndO K (rRepA K) oRepT := by
  intro b F H v w d e Qd Q r p1 p2 h k
  unfold oRepT at h
  split at h
  · rename_i xs n
    obtain ⟨h0, h1, h2, h3, h⟩ := h
    cases p1 with
    | tup a1 a2 =>
      rename_i a vs
      cases p2
      refine ⟨_, _, _, rfl, rfl, Same.sqT r.fz a1, fun e => ?_, h1, h2, by rw [a2.length]; exact h3, fun e => ?_, fun _ p hp => ?_⟩
      · subst e
        cases a2
        exact h0 rfl
      · subst e
        have e2 : (List.replicate (1 : Int).toNat xs).flatten = xs := by
          show (List.replicate 1 xs).flatten = xs
          simp
        rw [e2] at h
        exact k _ F H _ (.inl ⟨rfl, rfl⟩) (.tup a1 a2) h
      · have m : Same F (upd F p (.tup (List.replicate n.toNat vs).flatten)) := same_upd (r.fnone hp)
        exact k _ _ _ _ (.inr ⟨p, _, hp, rfl, rfl⟩) (.tup (SqT.of upd_same) ((RpL.mono m _ _ a2).rep _)) h
  · exact h.elim
abbrev PD := En → (Option Int → Prop) → Prop
def SndP (K : PySem.W.Frag) (t : TO) (m : PD) : Prop := ∀ (b : Bk) (F H : Hp) (σ : L2.St) (G : En) (Qd : Option Int → Prop) (Q : Option Int → Hp → Prop), RG K b F H σ G → m G Qd →
  (∀ c F' H', RG K b F' H' σ G → Ext b F F' → Qd c → Q c H') → t σ H Q
structure DP (X : Cx) (e : Option Expr) (m : PD) : Prop where
  ex : ∃ t, PO X e t ∧ SndP X.K t m
noncomputable def DP.t {X : Cx} (e : Option Expr) (m : PD) (h : DP X e m) : TO := Classical.choose h.ex
theorem DP.pe {X : Cx} {e : Option Expr} {m : PD} (h : DP X e m) : PO X e (DL.DP.t e m h) := (Classical.choose_spec h.ex).1
theorem DP.sn {X : Cx} {e : Option Expr} {m : PD} (h : DP X e m) : SndP X.K (DL.DP.t e m h) m := (Classical.choose_spec h.ex).2
def mNoP : PD := fun _ Q => Q none
def mPart (m : ED) : PD := fun G Q => m G fun d => match d with
  | .int i => Q (some i)
  | _ => False
theorem sndp_none : SndP K tNoPart mNoP := fun b F H σ G Qd Q r h k => k none F H r .refl h
theorem sndp_some {t : TE} {m : ED} (h : Snd K t m) : SndP K (tPart t) (mPart m) := by
  intro b F H σ G Qd Q rg hm k
  refine h b F H σ G _ _ rg hm fun v F1 H1 d r1 x1 p1 q1 => ?_
  split at q1
  · cases p1
    exact ⟨_, rfl, k _ F1 H1 r1 x1 q1⟩
  · exact q1.elim
def cutD (xs : List D) (lo hi : Option Int) : List D := (xs.drop (HT.sIx xs.length 0 lo)).take (HT.sIx xs.length xs.length hi - HT.sIx xs.length 0 lo)
theorem RpL.cut {s : Addr} {F : Hp} {vs : List V} {ds : List D} (h : RpL K s F vs ds) (lo hi : Option Int) : RpL K s F (cutV vs lo hi) (cutD ds lo hi) := by
  unfold cutV cutD
  rw [h.length]
  exact (h.drop _).take _
theorem RpL.inj {s : Addr} {F : Hp} {vs : List V} {ds : List D} (h : RpL K s F vs ds) : vs.length = ds.length := h.length
def mSlT (m : ED) (l u : PD) : ED := fun G Q => m G fun d => l G fun lo => u G fun hi => match d with
  | .tup xs => Q (.tup (cutD xs lo hi))
  | _ => False
theorem snd_slT {t : TE} {m : ED} {tl tu : TO} {l u : PD} (h : Snd K t m) (hl : SndP K tl l) (hu : SndP K tu u) : Snd K (tSl (rSlA K) t tl tu) (mSlT m l u) := by
  intro b F H σ G Qd Q rg hm k
  refine h b F H σ G _ _ rg hm fun v F1 H1 d r1 x1 p1 q1 => ?_
  refine hl b F1 H1 σ G _ _ r1 q1 fun lo F2 H2 r2 x2 q2 => ?_
  refine hu b F2 H2 σ G _ _ r2 q2 fun hi F3 H3 r3 x3 q3 => ?_
  split at q3
  · have p3 := Rp.mono (x2.trans x3).up _ v p1
    cases p3 with
    | tup a1 a2 =>
      rename_i xs a vs
      refine ⟨a, vs, rfl, Same.sqT r3.fz a1, fun e => ?_, fun p hp => ?_⟩
      · have c := a2.cut lo hi
        rw [e] at c
        exact k _ F3 H3 _ r3 ((x1.trans x2).trans x3) (.tup a1 c) q3
      · exact k _ _ _ _ (r3.allocF hp) (((x1.trans x2).trans x3).trans (r3.extF hp)) (.tup (SqT.of upd_same) (RpL.mono (same_upd (r3.fnone hp)) _ _ (a2.cut lo hi))) q3
  · exact q3.elim
def mSlL (mq : QD) (l u : PD) : AD := fun G Q => mq G fun k _ xs => k = true ∧ l G fun lo => u G fun hi => Q (cutD xs lo hi)
theorem sndf_slL {t : TE} {mq : QD} {tl tu : TO} {l u : PD} (h : SndQ K t mq) (hl : SndP K tl l) (hu : SndP K tu u) : SndF K (tSl (rSlL K) t tl tu) (mSlL mq l u) := by
  intro b F H σ G Qd Q rg hm k
  refine h b F H σ G _ _ rg hm fun v F1 H1 kd o xs r1 x1 s1 q1 => ?_
  obtain ⟨rfl, q1⟩ := q1
  refine hl b F1 H1 σ G _ _ r1 q1 fun lo F2 H2 r2 x2 q2 => ?_
  refine hu b F2 H2 σ G _ _ r2 q2 fun hi F3 H3 r3 x3 q3 => ?_
  obtain ⟨p, vs, rfl, h1, h2⟩ := s1.seq r3 (x2.trans x3)
  exact ⟨p, vs, rfl, h1, fun a ha => k a F3 _ _ (r3.alloc ha) ((x1.trans x2).trans x3) (r3.fresh ha (h2.cut lo hi)) q3⟩
/-! ### isinstance -/
def D.ty : D → String
  | .non => "NoneType"
  | .bl _ => "bool"
  | .int _ => "int"
  | .str _ => "str"
  | .tup _ => "tuple"
  | .tupF _ => "tuple"
  | .lst _ => "list"
  | .dct _ => "dict"
  | .tok => "list"
theorem Rp.ty {b : Bk} {F H : Hp} {v : V} {d : D} (r : RB b F H) (h : Rp K b.s F v d) : TyX K H v (.type d.ty) := by
  cases h with
  | non => exact .base .non
  | bl b => exact .base (.bl b)
  | int b => exact .base (.int b)
  | str b => exact .base (.str b)
  | tok =>
    obtain ⟨k, cells, h1, _⟩ := r.tk.ex
    exact .base (.lst h1)
  | tup h1 h2 =>
    rcases h1 with (h1 | ⟨o, h1⟩) | ⟨o, its, n, h1, h3, _⟩
    · exact .base (.tup (r.fz _ _ h1))
    · exact .fTuple (r.fz _ _ h1)
    · exact .kTuple h1 h3
  | tupF h1 h2 => exact .base (.tup (r.fz _ _ h1))
  | lst h1 h2 => exact .base (.lst (r.fz _ _ h1))
  | dct h1 h2 => exact .base (.dK (r.fz _ _ h1))
def isiS (a T : String) : Bool := if a = "bool" ∧ T = "int" then true else a == T
def isiB (d : D) (T : String) : Bool := isiS d.ty T
/-- isinstance(e, T), T one of tuple, int, bool, str, list, dict -/
def mIsi (T : String) (m : ED) : ED := fun G Q => m G fun d => Q (.bl (isiB d T))
theorem kit_of_ty {d : D} {T : String} (hT : T = "tuple" ∨ T = "int" ∨ T = "bool" ∨ T = "str" ∨ T = "list") : PySem.W.kitOne K (.type d.ty) (.type T) = some (isiB d T) := by
  have all : ∀ a ∈ ["NoneType", "bool", "int", "str", "tuple", "list", "dict"], ∀ T ∈ ["tuple", "int", "bool", "str", "list"], kitB a T = some (isiS a T) := by decide +kernel
  refine kit_ty (all d.ty ?_ T ?_)
  · cases d <;> simp [D.ty]
  · simpa using hT
theorem snd_isi {T : String} {t : TE} {m : ED} (hT : T = "tuple" ∨ T = "int" ∨ T = "bool" ∨ T = "str" ∨ T = "list") (h : Snd K t m) : Snd K (tCB (rIsi K) (tCons t (tCons (tC (.ty T)) tNil))) (mIsi T m) := by
  intro b F H σ G Qd Q rg hm k
  refine h b F H σ G _ _ rg hm fun v F1 H1 d r1 x1 p1 q1 => ?_
  exact ⟨v, .ty T, .type d.ty, .type T, isiB d T, rfl, .ty T, p1.ty r1.toRB, kit_of_ty hT, k _ F1 H1 _ r1 x1 (.bl _) q1⟩
/-! ### dicts with text keys -/
theorem RpK.val {s : Addr} {F : Hp} {x : Str} : ∀ {kvs : List (Key × V)} {ds : List (Str × D)} {d : D}, RpK K s F kvs ds → ds.lookup x = some d → ∃ v, valV kvs (.inr x) = some v ∧ Rp K s F v d
  | _, _, _, .nil, e => by cases e
  | _, (y, d0) :: ds, d, .cons (v := v) (vs := vs) h1 h2, e => by
    rw [List.lookup_cons] at e
    by_cases hx : x = y
    · subst hx
      rw [beq_self_eq_true] at e
      cases e
      refine ⟨v, ?_, h1⟩
      unfold valV
      rw [List.find?_cons_of_pos (by simp)]
      rfl
    · rw [beq_eq_false_iff_ne.mpr hx] at e
      obtain ⟨u, e1, e2⟩ := RpK.val h2 e
      refine ⟨u, ?_, e2⟩
      unfold valV at e1 ⊢
      rw [List.find?_cons_of_neg (by
        simp only [decide_eq_true_eq]
        exact fun z => hx (Sum.inr.inj z).symm)]
      exact e1
def lookD (kvs : List (Str × D)) (x : Str) (Q : D → Prop) : Prop := match kvs.lookup x with
  | some d => Q d
  | none => False
def mDGet (m mi : ED) : ED := fun G Q => m G fun d => mi G fun i => match d, i with
  | .dct kvs, .str x => lookD kvs x Q
  | _, _ => False
theorem snd_dget {t ti : TE} {m mi : ED} (h : Snd K t m) (hi : Snd K ti mi) : Snd K (tDGet t ti) (mDGet m mi) := by
  intro b F H σ G Qd Q rg hm k
  refine h b F H σ G _ _ rg hm fun v F1 H1 d r1 x1 p1 q1 => ?_
  refine hi b F1 H1 σ G _ _ r1 q1 fun w F2 H2 e r2 x2 p2 q2 => ?_
  split at q2
  · cases p2
    unfold lookD at q2
    split at q2
    · rename_i d ed
      cases Rp.mono x2.up _ v p1 with
      | dct a1 a2 =>
        obtain ⟨u, e1, e2⟩ := a2.val ed
        refine ⟨_, u, rfl, ?_, k u F2 H2 d r2 (x1.trans x2) e2 q2⟩
        rw [← e1]
        exact DGet.k (k := Sum.inr _) (r2.fz _ _ a1)
    · exact q2.elim
  · exact q2.elim
end
end DL
set_option Elab.async false
set_option linter.all false
set_option autoImplicit false
set_option maxRecDepth 100000
namespace DL
open PySem PySem.Spec
open PyProof.Rows hiding St
open L2

section
variable {K : PySem.W.Frag}
/-! ### what is walked -/
def guardH (K : PySem.W.Frag) (s : Addr) (o : Option (Nat × Addr)) (F H : Hp) (xs : List D) : Prop := match o with
  | none => True
  | some (_, p) => ∃ vs, H p = some (.lst vs) ∧ RpL K s F vs xs
structure ItOk (K : PySem.W.Frag) (b : Bk) (F : Hp) (J : It) (o : Option (Nat × Addr)) (xs : List D) : Prop where
  go : ∀ F2 H2, RB b F2 H2 → Ext b F F2 → guardH K b.s o F2 H2 xs → ∀ i x, xs[i]? = some x → J.go i H2 ∧ ∀ v H3, J.yld i H2 v H3 → H3 = H2 ∧ Rp K b.s F2 v x
  stop : ∀ F2 H2, RB b F2 H2 → Ext b F F2 → guardH K b.s o F2 H2 xs → J.stop xs.length H2
abbrev ID := En → (Option (Nat × Addr) → List D → Prop) → Prop
/-- o: where the list stands if it is one's own -/
def SndI (K : PySem.W.Frag) (wi : TI) (m : ID) : Prop := ∀ (b : Bk) (F H : Hp) (σ : L2.St) (G : En) (Qd : Option (Nat × Addr) → List D → Prop) (R : It → Hp → Prop), RG K b F H σ G → m G Qd →
  (∀ J F' H' o xs, RG K b F' H' σ G → Ext b F F' → ItOk K b F' J o xs → (∀ i p, o = some (i, p) → G[i]? = some (.ow p (.lst xs))) → Qd o xs → R J H') → wi σ H R
structure DI (X : Cx) (tg : Expr) (e : Expr) (m : ID) : Prop where
  ex : ∃ t, PI X tg e t ∧ SndI X.K t m
noncomputable def DI.t {X : Cx} (tg : Expr) (e : Expr) (m : ID) (h : DI X tg e m) : TI := Classical.choose h.ex
theorem DI.pe {X : Cx} {tg : Expr} {e : Expr} {m : ID} (h : DI X tg e m) : PI X tg e (DL.DI.t tg e m h) := (Classical.choose_spec h.ex).1
theorem DI.sn {X : Cx} {tg : Expr} {e : Expr} {m : ID} (h : DI X tg e m) : SndI X.K (DL.DI.t tg e m h) m := (Classical.choose_spec h.ex).2
def mSeqI (mq : QD) : ID := fun G Q => mq G fun _ o xs => Q o xs
theorem sndi_seq {t : TE} {mq : QD} (h : SndQ K t mq) : SndI K (iSeq K t) (mSeqI mq) := by
  intro b F H σ G Qd R rg hm k
  refine h b F H σ G _ _ rg hm fun v F1 H1 l o xs r1 x1 s1 q1 => ?_
  obtain ⟨p, e, h⟩ := s1.ex
  subst e
  cases o with
  | none =>
    obtain ⟨vs, h1, h2⟩ := h
    cases l with
    | true =>
      refine .inl ⟨p, rfl, ⟨vs, SqL.of (r1.fz _ _ h1)⟩, k _ F1 H1 none xs r1 x1 ⟨fun F2 H2 rb x2 _ i x ex => ?_, fun F2 H2 rb x2 _ => ?_⟩ (fun _ _ z => nomatch z) q1⟩
      · have q := SqL.of (K := K) (rb.fz _ _ (x2.up _ _ h1))
        obtain ⟨u, e1, e2⟩ := (RpL.mono x2.up xs vs h2).get ex
        exact ⟨⟨vs, u, q, e1⟩, fun v H3 y => ⟨y.1, by rw [Option.some.inj ((y.2 vs q).symm.trans e1)]; exact e2⟩⟩
      · exact ⟨vs, SqL.of (rb.fz _ _ (x2.up _ _ h1)), by rw [h2.length]; exact Nat.le_refl _⟩
    | false =>
      refine .inr ⟨p, rfl, ⟨vs, Same.sqT r1.fz h1⟩, k _ F1 H1 none xs r1 x1 ⟨fun F2 H2 rb x2 _ i x ex => ?_, fun F2 H2 rb x2 _ => ?_⟩ (fun _ _ z => nomatch z) q1⟩
      · have q : SqT K H2 p vs := Same.sqT (fun a o z => rb.fz _ _ (x2.up _ _ z)) h1
        obtain ⟨u, e1, e2⟩ := (RpL.mono x2.up xs vs h2).get ex
        exact ⟨⟨vs, u, q, e1⟩, fun v H3 y => ⟨y.1, by rw [Option.some.inj ((y.2 vs q).symm.trans e1)]; exact e2⟩⟩
      · exact ⟨vs, Same.sqT (fun a o z => rb.fz _ _ (x2.up _ _ z)) h1, by rw [h2.length]; exact Nat.le_refl _⟩
  | some iq =>
    obtain ⟨i, q⟩ := iq
    obtain ⟨rfl, rfl, h⟩ := h
    obtain ⟨_, ⟨vs, h1, h2⟩, _⟩ := r1.own i _ _ h
    refine .inl ⟨_, rfl, ⟨vs, SqL.of h1⟩, k _ F1 H1 (some (i, _)) xs r1 x1 ⟨fun F2 H2 rb x2 g j x ex => ?_, fun F2 H2 rb x2 g => ?_⟩ (fun _ _ z => by cases z; exact h) q1⟩
    · obtain ⟨ws, g1, g2⟩ := g
      obtain ⟨u, e1, e2⟩ := g2.get ex
      have q := SqL.of (K := K) g1
      exact ⟨⟨ws, u, q, e1⟩, fun v H3 y => ⟨y.1, by rw [Option.some.inj ((y.2 ws q).symm.trans e1)]; exact e2⟩⟩
    · obtain ⟨ws, g1, g2⟩ := g
      exact ⟨ws, SqL.of g1, by rw [g2.length]; exact Nat.le_refl _⟩
def mRange1 (ma : AD) : ID := fun G Q => ma G fun ds => match ds with
  | [.int j] => -1000000000 ≤ j ∧ j ≤ 1000000000 ∧ Q none ((List.range j.toNat).map fun i => .int (i : Nat))
  | _ => False
theorem range_get {n : Nat} {f : Nat → D} {i : Nat} {x : D} (e : ((List.range n).map f)[i]? = some x) : i < n ∧ x = f i := by
  rw [List.getElem?_map] at e
  obtain ⟨j, e1, rfl⟩ := Option.map_eq_some_iff.mp e
  obtain ⟨h, e2⟩ := List.getElem?_eq_some_iff.mp e1
  rw [List.getElem_range] at e2
  subst e2
  rw [List.length_range] at h
  exact ⟨h, rfl⟩
theorem sndi_range1 {ta : TA} {ma : AD} (h : SndA K ta ma) : SndI K (iRng1 ta) (mRange1 ma) := by
  intro b F H σ G Qd R rg hm k
  refine h b F H σ G _ _ rg hm fun vs F1 H1 ds r1 x1 p1 q1 => ?_
  split at q1
  · rename_i j
    obtain ⟨h1, h2, q1⟩ := q1
    obtain ⟨v, rfl, p2⟩ := p1.one
    cases p2
    refine ⟨j, rfl, by omega, by omega, k _ F1 H1 none _ r1 x1 ⟨fun F2 H2 rb x2 _ i x ex => ?_, fun F2 H2 rb x2 _ => ?_⟩ (fun _ _ z => nomatch z) q1⟩
    · obtain ⟨hi, rfl⟩ := range_get ex
      refine ⟨hi, fun v H3 y => ⟨y.1, ?_⟩⟩
      rw [y.2, Int.zero_add]
      exact .int _
    · show j.toNat ≤ _
      simp
  · exact q1.elim
theorem RpL.two {s : Addr} {F : Hp} {vs : List V} {d e : D} (h : RpL K s F vs [d, e]) : ∃ v w, vs = [v, w] ∧ Rp K s F v d ∧ Rp K s F w e := by
  cases h with
  | cons h1 h2 =>
    cases h2 with
    | cons h3 h4 => cases h4; exact ⟨_, _, rfl, h1, h3⟩
theorem RpL.three {s : Addr} {F : Hp} {vs : List V} {d e f : D} (h : RpL K s F vs [d, e, f]) : ∃ v w u, vs = [v, w, u] ∧ Rp K s F v d ∧ Rp K s F w e ∧ Rp K s F u f := by
  cases h with
  | cons h1 h2 =>
    obtain ⟨w, u, rfl, h3, h4⟩ := h2.two
    exact ⟨_, _, _, rfl, h1, h3, h4⟩
def mRange2 (ma : AD) : ID := fun G Q => ma G fun ds => match ds with
  | [.int i, .int j] => (-1000000000 ≤ i ∧ i ≤ 1000000000 ∧ -1000000000 ≤ j ∧ j ≤ 1000000000) ∧ Q none ((List.range (j - i).toNat).map fun n => .int (i + (n : Nat)))
  | _ => False
theorem sndi_range2 {ta : TA} {ma : AD} (h : SndA K ta ma) : SndI K (iRng2 ta) (mRange2 ma) := by
  intro b F H σ G Qd R rg hm k
  refine h b F H σ G _ _ rg hm fun vs F1 H1 ds r1 x1 p1 q1 => ?_
  split at q1
  · rename_i i j
    obtain ⟨h1, q1⟩ := q1
    obtain ⟨v, w, rfl, p2, p3⟩ := p1.two
    cases p2; cases p3
    refine ⟨i, j, rfl, by omega, k _ F1 H1 none _ r1 x1 ⟨fun F2 H2 rb x2 _ n x ex => ?_, fun F2 H2 rb x2 _ => ?_⟩ (fun _ _ z => nomatch z) q1⟩
    · obtain ⟨hi, rfl⟩ := range_get ex
      refine ⟨hi, fun v H3 y => ⟨y.1, ?_⟩⟩
      rw [y.2]
      exact .int _
    · show (j - i).toNat ≤ _
      simp
  · exact q1.elim
def mRange3 (ma : AD) : ID := fun G Q => ma G fun ds => match ds with
  | [.int i, .int j, .int c] => ∃ n, RgC i j c n ∧ Q none ((List.range n).map fun m => .int (i + (m : Nat) * c))
  | _ => False
theorem sndi_range3 {ta : TA} {ma : AD} (h : SndA K ta ma) : SndI K (iRng3 ta) (mRange3 ma) := by
  intro b F H σ G Qd R rg hm k
  refine h b F H σ G _ _ rg hm fun vs F1 H1 ds r1 x1 p1 q1 => ?_
  split at q1
  · rename_i i j c
    obtain ⟨n, h1, q1⟩ := q1
    obtain ⟨v, w, u, rfl, p2, p3, p4⟩ := p1.three
    cases p2; cases p3; cases p4
    refine ⟨i, j, c, n, rfl, h1, k _ F1 H1 none _ r1 x1 ⟨fun F2 H2 rb x2 _ m x ex => ?_, fun F2 H2 rb x2 _ => ?_⟩ (fun _ _ z => nomatch z) q1⟩
    · obtain ⟨hi, rfl⟩ := range_get ex
      refine ⟨hi, fun v H3 y => ⟨y.1, ?_⟩⟩
      rw [y.2]
      exact .int _
    · show n ≤ _
      simp
  · exact q1.elim
/-! ### targets -/
abbrev GD := D → En → (En → Prop) → Prop
def SndG (K : PySem.W.Frag) (g : TG) (m : GD) : Prop := ∀ (b : Bk) (F H : Hp) (v : V) (d : D) (σ : L2.St) (G : En) (Qd : En → Prop) (Q : L2.St → Hp → Prop), RG K b F H σ G → Rp K b.s F v d → m d G Qd →
  (∀ σ' G', RG K b F H σ' G' → Qd G' → Q σ' H) → g v σ H Q
structure DG (X : Cx) (e : Expr) (g : TG) (m : GD) : Prop where
  pg : PG X e g
  sn : SndG X.K g m
def gNm (i : Nat) : GD := fun d G Q => Q (G.set i (.fz d))
theorem sndg_name (i : Nat) : SndG K (gName i) (gNm i) := fun b F H v d σ G Qd Q r p h k => k _ _ (r.setFz p) h
abbrev GDs := List D → En → (En → Prop) → Prop
def SndGs (K : PySem.W.Frag) (g : TGs) (m : GDs) : Prop := ∀ (b : Bk) (F H : Hp) (vs : List V) (ds : List D) (σ : L2.St) (G : En) (Qd : En → Prop) (Q : L2.St → Hp → Prop), RG K b F H σ G → RpL K b.s F vs ds → m ds G Qd →
  (∀ σ' G', RG K b F H σ' G' → Qd G' → Q σ' H) → g vs σ H Q
structure DGs (X : Cx) (es : List Expr) (g : TGs) (m : GDs) : Prop where
  pg : PGs X es g
  sn : SndGs X.K g m
def gNilD : GDs := fun ds G Q => ds = [] ∧ Q G
def gConsD (m : GD) (r : GDs) : GDs := fun ds G Q => match ds with
  | d :: ds => m d G fun G' => r ds G' Q
  | [] => False
theorem sndgs_nil : SndGs K gNil gNilD := by
  intro b F H vs ds σ G Qd Q r p h k
  obtain ⟨rfl, h⟩ := h
  cases p
  exact ⟨rfl, k _ _ r h⟩
theorem sndgs_cons {g : TG} {m : GD} {gs : TGs} {ms : GDs} (h1 : SndG K g m) (h2 : SndGs K gs ms) : SndGs K (gCons g gs) (gConsD m ms) := by
  intro b F H vs ds σ G Qd Q r p h k
  unfold gConsD at h
  split at h
  · cases p with
    | cons p1 p2 =>
      refine ⟨_, _, rfl, h1 b F H _ _ σ G _ _ r p1 h fun σ' G' r' h' => ?_⟩
      exact h2 b F H _ _ σ' G' _ _ r' p2 h' k
  · exact h.elim
def gTupD (n : Nat) (m : GDs) : GD := fun d G Q => match d with
  | .tup ds => ds.length = n ∧ m ds G Q
  | _ => False
theorem sndg_tup {n : Nat} {gs : TGs} {ms : GDs} (h1 : SndGs K gs ms) : SndG K (gTup K n gs) (gTupD n ms) := by
  intro b F H v d σ G Qd Q r p h k
  unfold gTupD at h
  split at h
  · cases p with
    | tup a1 a2 => exact ⟨_, _, rfl, Same.sqT r.fz a1, by rw [a2.length]; exact h.1, h1 b F H _ _ σ G _ _ r a2 h.2 k⟩
  · exact h.elim
/-! ### comprehensions -/
def wipeD (G : En) : List Nat → En
  | [] => G
  | v :: vs => (wipeD G vs).set v .un
def noOw (G : En) (vs : List Nat) : Bool := vs.all fun i => match G[i]? with
  | some (.ow _ _) => false
  | _ => true
theorem wipe_get {σ : L2.St} {i : Nat} : ∀ {vs : List Nat}, i ∉ vs → (wipe σ vs)[i]? = σ[i]?
  | [], _ => rfl
  | v :: vs, h => by
    unfold wipe
    rw [List.getElem?_set_ne (fun e => h (by rw [e]; exact List.mem_cons_self))]
    exact wipe_get fun z => h (List.mem_cons_of_mem _ z)
theorem wipeD_get {G : En} {i : Nat} : ∀ {vs : List Nat}, i ∉ vs → (wipeD G vs)[i]? = G[i]?
  | [], _ => rfl
  | v :: vs, h => by
    unfold wipeD
    rw [List.getElem?_set_ne (fun e => h (by rw [e]; exact List.mem_cons_self))]
    exact wipeD_get fun z => h (List.mem_cons_of_mem _ z)
theorem wipeD_length (G : En) : ∀ vs : List Nat, (wipeD G vs).length = G.length
  | [] => rfl
  | v :: vs => by unfold wipeD; rw [List.length_set, wipeD_length G vs]
theorem wipeD_un {G : En} {i : Nat} {e : EV} : ∀ {vs : List Nat}, (wipeD G vs)[i]? = some e → e ≠ .un → i ∉ vs
  | [], _, _ => by simp
  | v :: vs, h, hn => by
    unfold wipeD at h
    by_cases hv : v = i
    · subst hv
      by_cases hl : v < (wipeD G vs).length
      · rw [List.getElem?_set_self hl] at h
        exact absurd (Option.some.inj h).symm hn
      · rw [List.getElem?_eq_none (by simpa using hl)] at h; cases h
    · rw [List.getElem?_set_ne hv] at h
      have := wipeD_un h hn
      simp [this, Ne.symm hv]
theorem RG.wipe {b : Bk} {F H : Hp} {σ : L2.St} {G : En} (r : RG K b F H σ G) (vs : List Nat) : RG K b F H (L2.wipe σ vs) (wipeD G vs) :=
  { toRB := r.toRB, len := by rw [wipe_length, wipeD_length]; exact r.len,
    slot := fun i d e => by
      have hi := wipeD_un e (fun z => nomatch z)
      rw [wipeD_get hi] at e
      rw [wipe_get hi]
      exact r.slot i d e
    own := fun i p c e => by
      have hi := wipeD_un e (fun z => nomatch z)
      rw [wipeD_get hi] at e
      rw [wipe_get hi]
      exact r.own i p c e
    dis := fun i j p q c d e1 e2 => by
      rw [wipeD_get (wipeD_un e1 (fun z => nomatch z))] at e1
      rw [wipeD_get (wipeD_un e2 (fun z => nomatch z))] at e2
      exact r.dis i j p q c d e1 e2 }
/-- from a wiped one back, what is one's own as it is -/
theorem RG.unwipe {b : Bk} {F F' H H' : Hp} {σ : L2.St} {G : En} {vs : List Nat} (r : RG K b F H σ G) (x : Ext b F F') (r' : RG K b F' H' (L2.wipe σ vs) (wipeD G vs)) (no : noOw G vs = true) : RG K b F' H' σ G :=
  { toRB := r'.toRB, len := r.len, dis := r.dis,
    slot := fun i d e => by
      obtain ⟨v, e1, e2⟩ := r.slot i d e
      exact ⟨v, e1, Rp.mono x.up d v e2⟩
    own := fun i p c e => by
      have hi : i ∉ vs := fun h => by
        have := List.all_eq_true.mp no i h
        simp only [e] at this
        cases this
      have e' : (wipeD G vs)[i]? = some (.ow p c) := by rw [wipeD_get hi]; exact e
      obtain ⟨q1, q2⟩ := r'.own i p c e'
      rw [wipe_get hi] at q1
      exact ⟨q1, q2⟩ }
structure TgOk (g : TG) (m : GD) (vs : List Nat) : Prop where
  w : ∀ v σ H (Q : L2.St → Hp → Prop), g v σ H Q → g v σ H fun σ' H' => wipe σ' vs = wipe σ vs ∧ Q σ' H'
  d : ∀ d G (Q : En → Prop), m d G Q → m d G fun G' => Q G' ∧ ∀ i, i ∉ vs → G'[i]? = G[i]?
theorem wipe_set {σ : L2.St} {i : Nat} {o : Option V} : ∀ {vs : List Nat}, i ∈ vs → wipe (σ.set i o) vs = wipe σ vs
  | [], h => by cases h
  | v :: vs, h => by
    unfold wipe
    by_cases hv : i ∈ vs
    · rw [wipe_set hv]
    · have e : v = i := by
        rcases List.mem_cons.mp h with e | e
        · exact e.symm
        · exact absurd e hv
      subst e
      have comm : ∀ {us : List Nat}, v ∉ us → wipe (σ.set v o) us = (wipe σ us).set v o := by
        intro us
        induction us with
        | nil => intro _; rfl
        | cons u us ih =>
          intro hu
          unfold wipe
          rw [ih (fun z => hu (List.mem_cons_of_mem _ z)), List.set_comm _ _ (fun z => hu (by rw [z]; exact List.mem_cons_self))]
      rw [comm hv, List.set_set]
theorem tgok_name {i : Nat} {vs : List Nat} (h : i ∈ vs) : TgOk (gName i) (gNm i) vs :=
  ⟨fun v σ H Q q => ⟨wipe_set h, q⟩, fun d G Q q => ⟨q, fun j hj => by rw [List.getElem?_set_ne (fun e => hj (by rw [← e]; exact h))]⟩⟩
structure TgsOk (g : TGs) (m : GDs) (vs : List Nat) : Prop where
  w : ∀ us σ H (Q : L2.St → Hp → Prop), g us σ H Q → g us σ H fun σ' H' => wipe σ' vs = wipe σ vs ∧ Q σ' H'
  d : ∀ ds G (Q : En → Prop), m ds G Q → m ds G fun G' => Q G' ∧ ∀ i, i ∉ vs → G'[i]? = G[i]?
theorem tgsok_nil {vs : List Nat} : TgsOk gNil gNilD vs := ⟨fun _ _ _ _ q => ⟨q.1, rfl, q.2⟩, fun _ _ _ q => ⟨q.1, q.2, fun _ _ => rfl⟩⟩
theorem tgsok_cons {i : Nat} {g : TGs} {m : GDs} {vs : List Nat} (h : i ∈ vs) (r : TgsOk g m vs) : TgsOk (gCons (gName i) g) (gConsD (gNm i) m) vs :=
  ⟨fun us σ H Q ⟨v, rr, e, q⟩ => ⟨v, rr, e, by
      have := r.w rr _ _ _ q
      rw [wipe_set h] at this
      exact this⟩, fun ds G Q q => by
    unfold gConsD at q ⊢
    split at q
    · rename_i d ds
      have := r.d ds _ _ q
      show m ds (G.set i (.fz d)) _
      have e : ∀ j, j ∉ vs → (G.set i (.fz d))[j]? = G[j]? := fun j hj => by rw [List.getElem?_set_ne (fun e => hj (by rw [← e]; exact h))]
      have e2 : (fun G' : En => Q G' ∧ ∀ j, j ∉ vs → G'[j]? = (G.set i (.fz d))[j]?) = (fun G' => Q G' ∧ ∀ j, j ∉ vs → G'[j]? = G[j]?) := by
        funext G'
        exact propext ⟨fun z => ⟨z.1, fun j hj => (z.2 j hj).trans (e j hj)⟩, fun z => ⟨z.1, fun j hj => (z.2 j hj).trans (e j hj).symm⟩⟩
      rw [e2] at this
      exact this
    · exact q.elim⟩
theorem tgok_tup {n : Nat} {g : TGs} {m : GDs} {vs : List Nat} (r : TgsOk g m vs) : TgOk (gTup K n g) (gTupD n m) vs :=
  ⟨fun v σ H Q ⟨a, xs, h1, h2, h3, q⟩ => ⟨a, xs, h1, h2, h3, r.w _ _ _ _ q⟩, fun d G Q q => by
    unfold gTupD at q ⊢
    split at q
    · exact ⟨q.1, r.d _ _ _ q.2⟩
    · exact q.elim⟩
/-- the turns of a comprehension -/
def compD (G : En) (tg : GD) (mt : BD) (me : ED) : List D → List D → (List D → Prop) → Prop
  | [], acc, Q => Q acc
  | x :: xs, acc, Q => tg x G fun G1 => mt G1 fun c => if c = true then me G1 fun d => compD G tg mt me xs (acc ++ [d]) Q else compD G tg mt me xs acc Q
def mLc (vs : List Nat) (mi : ID) (tg : GD) (mt : BD) (me : ED) : AD := fun G Q => mi G fun _ xs => noOw G vs = true ∧ xs.length ≤ 1000000 ∧ compD (wipeD G vs) tg mt me xs [] Q
theorem sndf_lc {wi : TI} {mi : ID} {g : TG} {tg : GD} {tt : TT} {mt : BD} {te : TE} {me : ED} {vs : List Nat} (hi : SndI K wi mi) (hg : SndG K g tg) (ok : TgOk g tg vs) (ht : SndT K tt mt) (he : Snd K te me) : SndF K (tLc wi g tt te vs) (mLc vs mi tg mt me) := by
  intro b F H σ G Qd Q rg hm k
  refine hi b F H σ G _ _ rg hm fun J F1 H1 o xs r1 x1 it ho q1 => ?_
  obtain ⟨no, hlen, q1⟩ := q1
  intro Da hDa
  have DB : b.B Da = none := r1.bnone hDa
  have Ds : Da ≠ b.s := r1.nes hDa
  have Dc : Da ≠ b.c := r1.nec hDa
  have rw1 := r1.wipe vs
  refine ⟨fun i m H2 => i ≤ xs.length ∧ m = xs.length - i ∧ ∃ F2 acc accD, RG K b F2 H2 (wipe σ vs) (wipeD G vs) ∧ Ext b F1 F2 ∧ H2 Da = some (.lst acc) ∧ F2 Da = none ∧ RpL K b.s F2 acc accD ∧ acc.length ≤ i ∧ compD (wipeD G vs) tg mt me (xs.drop i) accD Qd, ⟨xs.length, Nat.zero_le _, by simp, F1, [], [], rw1.alloc hDa, .refl, upd_same, r1.fnone hDa, .nil, Nat.le_refl _, by rw [List.drop_zero]; exact q1⟩, ?_⟩
  rintro i m H2 ⟨hi, rfl, F2, acc, accD, r2, x2, hD, hF, hacc, hal, hc⟩
  have gd : guardH K b.s o F2 H2 xs := by
    cases o with
    | none => trivial
    | some ip =>
      obtain ⟨j, p⟩ := ip
      have e := ho j p rfl
      have hj : j ∉ vs := fun h => by
        have := List.all_eq_true.mp no j h
        simp only [e] at this
        cases this
      obtain ⟨_, q, _⟩ := r2.own j p _ (by rw [wipeD_get hj]; exact e)
      exact q
  by_cases hlt : i < xs.length
  · right
    have ex : xs[i]? = some xs[i] := List.getElem?_eq_getElem hlt
    have hd : xs.drop i = xs[i] :: xs.drop (i + 1) := List.drop_eq_getElem_cons hlt
    obtain ⟨g1, g2⟩ := it.go F2 H2 r2.toRB x2 gd i _ ex
    refine ⟨g1, fun H' => ∃ F2 acc accD, RG K b F2 H' (wipe σ vs) (wipeD G vs) ∧ Ext b F1 F2 ∧ H' Da = some (.lst acc) ∧ F2 Da = none ∧ RpL K b.s F2 acc accD ∧ acc.length ≤ i + 1 ∧ compD (wipeD G vs) tg mt me (xs.drop (i + 1)) accD Qd, fun H' ⟨F3, a3, aD3, z⟩ => ⟨xs.length - (i + 1), by omega, hlt, rfl, F3, a3, aD3, z⟩, fun v H3 y => ?_⟩
    obtain ⟨rfl, px⟩ := g2 v H3 y
    rw [hd] at hc
    have hc : tg xs[i] (wipeD G vs) fun G1 => mt G1 fun c => if c = true then me G1 fun d => compD (wipeD G vs) tg mt me (xs.drop (i + 1)) (accD ++ [d]) Qd else compD (wipeD G vs) tg mt me (xs.drop (i + 1)) accD Qd := hc
    -- the list that is being made is kept within a turn
    have nD : ∀ (j : Nat) (p : Addr) (c : OC), (wipeD G vs)[j]? = some (.ow p c) → Da ∉ c.fp p := fun j p c e => by
      have hj := wipeD_un e (fun z => nomatch z)
      rw [wipeD_get hj] at e
      exact r1.nop hDa e
    have rb : RG K { b with B := upd b.B Da (.lst acc) } F2 H3 (wipe σ vs) (wipeD G vs) := r2.prot hD DB Ds Dc nD
    -- back behind the turn
    have back : ∀ {F3 H4 : Hp} {σ2 : L2.St} {G2 : En} {acc' : List V}, RG K { b with B := upd b.B Da (.lst acc) } F3 H4 σ2 G2 → Ext { b with B := upd b.B Da (.lst acc) } F2 F3 → (∀ j, j ∉ vs → G2[j]? = (wipeD G vs)[j]?) →
        RG K b F3 (upd H4 Da (.lst acc')) (wipe σ vs) (wipeD G vs) ∧ Ext b F1 F3 ∧ F3 Da = none ∧ H4 Da = some (.lst acc) := by
      intro F3 H4 σ2 G2 acc' r3 x3 eG
      have hD4 : H4 Da = some (.lst acc) := r3.keep Da _ (by show upd b.B Da (.lst acc) Da = _; exact upd_same)
      have hF3 : F3 Da = none := x3.kept hF
      have xb : Ext b F2 F3 := x3.unprot DB
      refine ⟨{ keep := fun a u e => ?_, fz := fun a u e => ?_, tk := r3.tk.other Ds Dc, bs := r2.bs, bc := r2.bc, fs := r3.fs, fc := r3.fc, len := r2.len, dis := r2.dis, slot := fun j d e => ?_, own := fun j p c e => ?_ }, x2.trans xb, hF3, hD4⟩
      · rw [upd_ne (ne_of_none e DB)]
        exact r3.keep a u (by show upd b.B Da (.lst acc) a = _; rw [upd_ne (ne_of_none e DB)]; exact e)
      · rw [upd_ne (ne_of_none e hF3)]
        exact r3.fz a u e
      · obtain ⟨v, e1, e2⟩ := r2.slot j d e
        exact ⟨v, e1, Rp.mono xb.up d v e2⟩
      · have hj := wipeD_un e (fun z => nomatch z)
        obtain ⟨e1, _, e3⟩ := r2.own j p c e
        obtain ⟨_, q2, q3⟩ := r3.own j p c (by rw [eG j hj]; exact e)
        refine ⟨e1, q2.mono (fun _ _ z => z) (fun a ha o z => ?_), fun a ha => ⟨(e3 a ha).1, (q3 a ha).2⟩⟩
        rw [upd_ne (fun y => nD j p c e (by rw [← y]; exact ha))]
        exact z
    have hc := ok.d _ _ _ hc
    have idem : wipe (wipe σ vs) vs = wipe σ vs := by
      have : ∀ us : List Nat, (∀ u ∈ us, u ∈ vs) → wipe (wipe σ us) vs = wipe σ vs := by
        intro us
        induction us with
        | nil => intro _; rfl
        | cons u us ih =>
          intro hu
          show wipe ((wipe σ us).set u none) vs = wipe σ vs
          rw [wipe_set (hu u List.mem_cons_self)]
          exact ih fun x hx => hu x (List.mem_cons_of_mem _ hx)
      exact this vs fun _ h => h
    have key : ∀ Q' : L2.St → Hp → Prop, g v (wipe σ vs) H3 Q' → g v (wipe σ vs) H3 fun σ' H' => wipe σ' vs = wipe σ vs ∧ Q' σ' H' := fun Q' h => by
      have := ok.w v (wipe σ vs) H3 Q' h
      rw [idem] at this
      exact this
    refine key (fun σ' H' => tt σ' H' _) (hg _ F2 H3 v _ _ _ _ _ rb px hc fun σ2 G2 r3 hcg => ?_)
    obtain ⟨hc, eG⟩ := hcg
    refine ht _ F2 H3 σ2 G2 _ _ r3 hc fun c F3 H4 r4 x4 hc => ?_
    cases c with
    | false =>
      refine iteF ?_
      obtain ⟨q1, q2, q3, q4⟩ := back (acc' := acc) r4 x4 eG
      have eH : upd H4 Da (.lst acc) = H4 := by
        funext a
        by_cases ha : a = Da
        · subst ha; rw [upd_same, q4]
        · rw [upd_ne ha]
      rw [eH] at q1
      exact ⟨F3, acc, accD, q1, q2, q4, q3, RpL.mono x4.up _ _ hacc, by omega, hc⟩
    | true =>
      refine iteT ?_
      refine he _ F3 H4 σ2 G2 _ _ r4 hc fun y F4 H5 d r5 x5 py hc => ?_
      obtain ⟨q1, q2, q3, q4⟩ := back (acc' := acc ++ [y]) r5 (x4.trans x5) eG
      refine ⟨acc, q4, Nat.lt_of_le_of_lt (Nat.le_trans hal (Nat.le_of_lt hlt)) (by rw [sizeLine_eq]; omega), F4, acc ++ [y], accD ++ [d], q1, q2, upd_same, q3, ?_, ?_, hc⟩
      · exact (RpL.mono (x4.trans x5).up _ _ hacc).append (.cons py .nil)
      · rw [List.length_append]
        exact Nat.add_le_add_right hal 1
  · left
    have e : i = xs.length := by omega
    subst e
    refine ⟨it.stop F2 H2 r2.toRB x2 gd, ?_⟩
    rw [List.drop_length] at hc
    have hc : Qd accD := hc
    have r3 := RG.unwipe r1 x2 r2 no
    exact k Da F2 H2 accD r3 (x1.trans x2) ⟨⟨acc, hD, hacc⟩, fun a ha => by rw [List.mem_singleton.mp ha]; exact ⟨DB, hF, Ds, Dc⟩, fun j q c e a ha => by rw [List.mem_singleton.mp ha]; exact r1.nop hDa e⟩ hc
end
end DL
set_option Elab.async false
set_option linter.all false
set_option autoImplicit false
set_option maxRecDepth 100000
namespace DL
open PySem PySem.Spec
open PyProof.Rows hiding St
open L2

/-! ## statements -/
structure EndsD where
  nx : En → Prop
  rt : D → Prop
  bk : En → Prop := fun _ => False
  ct : En → Prop := fun _ => False
abbrev SD := EndsD → En → Prop
structure Link (K : PySem.W.Frag) (b : Bk) (F : Hp) (De : EndsD) (E : Ends) : Prop where
  nx : ∀ σ' F' H' G', RG K b F' H' σ' G' → Ext b F F' → De.nx G' → E.nx σ' H'
  rt : ∀ σ' F' H' G' v d, RG K b F' H' σ' G' → Ext b F F' → Rp K b.s F' v d → De.rt d → E.rt v H'
  bk : ∀ σ' F' H' G', RG K b F' H' σ' G' → Ext b F F' → De.bk G' → E.bk σ' H'
  ct : ∀ σ' F' H' G', RG K b F' H' σ' G' → Ext b F F' → De.ct G' → E.ct σ' H'
theorem Link.ext {K : PySem.W.Frag} {b : Bk} {F F1 : Hp} {De : EndsD} {E : Ends} (l : Link K b F De E) (x : Ext b F F1) : Link K b F1 De E :=
  ⟨fun σ F' H G r y h => l.nx σ F' H G r (x.trans y) h, fun σ F' H G v d r y p h => l.rt σ F' H G v d r (x.trans y) p h, fun σ F' H G r y h => l.bk σ F' H G r (x.trans y) h, fun σ F' H G r y h => l.ct σ F' H G r (x.trans y) h⟩
def SndS (K : PySem.W.Frag) (t : TS) (m : SD) : Prop := ∀ (b : Bk) (F H : Hp) (σ : L2.St) (G : En) (De : EndsD) (E : Ends), RG K b F H σ G → m De G → Link K b F De E → t E σ H
structure DS (X : Cx) (st : Stmt) (m : SD) : Prop where
  ex : ∃ t, PS X st t ∧ SndS X.K t m
noncomputable def DS.t {X : Cx} (st : Stmt) (m : SD) (h : DS X st m) : TS := Classical.choose h.ex
theorem DS.ps {X : Cx} {st : Stmt} {m : SD} (h : DS X st m) : PS X st (DL.DS.t st m h) := (Classical.choose_spec h.ex).1
theorem DS.sn {X : Cx} {st : Stmt} {m : SD} (h : DS X st m) : SndS X.K (DL.DS.t st m h) m := (Classical.choose_spec h.ex).2
structure DSs (X : Cx) (st : List Stmt) (m : SD) : Prop where
  ex : ∃ t, PSs X st t ∧ SndS X.K t m
noncomputable def DSs.t {X : Cx} (st : List Stmt) (m : SD) (h : DSs X st m) : TS := Classical.choose h.ex
theorem DSs.ps {X : Cx} {st : List Stmt} {m : SD} (h : DSs X st m) : PSs X st (DL.DSs.t st m h) := (Classical.choose_spec h.ex).1
theorem DSs.sn {X : Cx} {st : List Stmt} {m : SD} (h : DSs X st m) : SndS X.K (DL.DSs.t st m h) m := (Classical.choose_spec h.ex).2

section
variable {K : PySem.W.Frag}
def mNext : SD := fun De G => De.nx G
theorem snds_next : SndS K tNext mNext := fun b F H σ G De E r h l => l.nx σ F H G r .refl h
def mSeq (m n : SD) : SD := fun De G => m { De with nx := n De } G
theorem snds_seq {t u : TS} {m n : SD} (h1 : SndS K t m) (h2 : SndS K u n) : SndS K (tSeq t u) (mSeq m n) := by
  intro b F H σ G De E r h l
  exact h1 b F H σ G _ _ r h ⟨fun σ' F' H' G' r' x q => h2 b F' H' σ' G' De E r' q (l.ext x), l.rt, l.bk, l.ct⟩
def mBreak : SD := fun De G => De.bk G
def mCont : SD := fun De G => De.ct G
theorem snds_break : SndS K tBreak mBreak := fun b F H σ G De E r h l => l.bk σ F H G r .refl h
theorem snds_cont : SndS K tCont mCont := fun b F H σ G De E r h l => l.ct σ F H G r .refl h
def mNever : SD := fun _ _ => False
theorem snds_never : SndS K tNever mNever := fun b F H σ G De E r h l => h
def mAsg (me : ED) (mg : GD) : SD := fun De G => me G fun d => mg d G De.nx
theorem snds_asg {te : TE} {me : ED} {g : TG} {mg : GD} (he : Snd K te me) (hg : SndG K g mg) : SndS K (tAsg te g) (mAsg me mg) := by
  intro b F H σ G De E r h l
  refine he b F H σ G _ _ r h fun v F1 H1 d r1 x1 p1 q1 => ?_
  exact hg b F1 H1 v d σ G _ _ r1 p1 q1 fun σ' G' r' q' => l.nx σ' F1 H1 G' r' x1 q'
def mSet (i : Nat) (me : ED) : SD := fun De G => me G fun d => De.nx (G.set i (.fz d))
theorem snds_set {i : Nat} {te : TE} {me : ED} (he : Snd K te me) : SndS K (tAsg te (gName i)) (mSet i me) := by
  intro b F H σ G De E r h l
  refine he b F H σ G _ _ r h fun v F1 H1 d r1 x1 p1 q1 => ?_
  exact l.nx _ F1 H1 _ (r1.setFz p1) x1 q1
/-- a new list comes to a name, as one's own -/
def mSetOw (i : Nat) (mf : AD) : SD := fun De G => mf G fun xs => ∀ p, De.nx (G.set i (.ow p (.lst xs)))
theorem snds_setOw {i : Nat} {te : TE} {mf : AD} (he : SndF K te mf) : SndS K (tAsg te (gName i)) (mSetOw i mf) := by
  intro b F H σ G De E r h l
  refine he b F H σ G _ _ r h fun p F1 H1 xs r1 x1 f1 q1 => ?_
  exact l.nx _ F1 H1 _ (r1.setOw f1) x1 (q1 p)
def mPar (i j : Nat) (ma : AD) : SD := fun De G => ma G fun ds => match ds with
  | [d, e] => De.nx ((G.set i (.fz d)).set j (.fz e))
  | _ => False
theorem snds_par {i j : Nat} {ta : TA} {ma : AD} (h : SndA K ta ma) : SndS K (tPar i j ta) (mPar i j ma) := by
  intro b F H σ G De E r hm l
  refine h b F H σ G _ _ r hm fun vs F1 H1 ds r1 x1 p1 q1 => ?_
  split at q1
  · obtain ⟨v, w, rfl, p2, p3⟩ := p1.two
    exact ⟨v, w, rfl, l.nx _ F1 H1 _ ((r1.setFz p2).setFz p3) x1 q1⟩
  · exact q1.elim
/-- a, b = value, new list: the second one's own -/
def mParO (i j : Nat) (me : ED) (mf : AD) : SD := fun De G => me G fun d => mf G fun xs => ∀ p, De.nx ((G.set i (.fz d)).set j (.ow p (.lst xs)))
theorem snds_parO {i j : Nat} {te tf : TE} {me : ED} {mf : AD} (he : Snd K te me) (hf : SndF K tf mf) : SndS K (tPar i j (tCons te (tCons tf tNil))) (mParO i j me mf) := by
  intro b F H σ G De E r hm l
  refine he b F H σ G _ _ r hm fun v F1 H1 d r1 x1 p1 q1 => ?_
  refine hf b F1 H1 σ G _ _ r1 q1 fun p F2 H2 xs r2 x2 f2 q2 => ?_
  have r3 := r2.setFz (i := i) (Rp.mono x2.up d v p1)
  have f3 : Fresh K b F2 H2 (G.set i (.fz d)) p (.lst xs) := by
    refine ⟨f2.at_, f2.k, fun k q c e => ?_⟩
    rcases getset e with ⟨_, z, _⟩ | ⟨_, e⟩
    · cases z
    · exact f2.g k q c e
  exact ⟨v, .ref p, rfl, l.nx _ F2 H2 _ (r3.setOw f3) (x1.trans x2) (q2 p)⟩
def mDrop (me : ED) : SD := fun De G => me G fun _ => De.nx G
theorem snds_drop {te : TE} {me : ED} (he : Snd K te me) : SndS K (tDrop te) (mDrop me) := by
  intro b F H σ G De E r h l
  exact he b F H σ G _ _ r h fun v F1 H1 d r1 x1 p1 q1 => l.nx σ F1 H1 G r1 x1 q1
def mRet (me : ED) : SD := fun De G => me G De.rt
theorem snds_ret {te : TE} {me : ED} (he : Snd K te me) : SndS K (tRet te) (mRet me) := by
  intro b F H σ G De E r h l
  exact he b F H σ G _ _ r h fun v F1 H1 d r1 x1 p1 q1 => l.rt σ F1 H1 G v d r1 x1 p1 q1
def mRetN : SD := fun De _ => De.rt .non
theorem snds_retN : SndS K tRetN mRetN := fun b F H σ G De E r h l => l.rt σ F H G .non .non r .refl .non h
def mIfS (c : BD) (m n : SD) : SD := fun De G => c G fun c => if c = true then m De G else n De G
theorem snds_if {tc : TT} {mc : BD} {t u : TS} {m n : SD} (hc : SndT K tc mc) (h1 : SndS K t m) (h2 : SndS K u n) : SndS K (tIfS tc t u) (mIfS mc m n) := by
  intro b F H σ G De E r h l
  refine hc b F H σ G _ _ r h fun c F1 H1 r1 x1 q1 => ?_
  cases c with
  | true => exact h1 b F1 H1 σ G De E r1 q1 (l.ext x1)
  | false => exact h2 b F1 H1 σ G De E r1 q1 (l.ext x1)
/-- a list of one's own is given up -/
def mGive (i : Nat) (m : SD) : SD := fun De G => match G[i]? with
  | some (.ow _ (.lst xs)) => m De (G.set i (.fz (.lst xs)))
  | _ => False
theorem snds_give {i : Nat} {t : TS} {m : SD} (h : SndS K t m) : SndS K t (mGive i m) := by
  intro b F H σ G De E r hm l
  unfold mGive at hm
  split at hm
  · rename_i p xs e
    obtain ⟨vs, r1, x1⟩ := r.give e
    exact h b _ H σ _ De E r1 hm (l.ext x1)
  · exact hm.elim
/-! ### for, while -/
def guardD (o : Option (Nat × Addr)) (xs : List D) (G : En) : Prop := match o with
  | none => True
  | some (i, p) => G[i]? = some (.ow p (.lst xs))
def forD (o : Option (Nat × Addr)) (all : List D) (tg : GD) (body : SD) (De : EndsD) : List D → En → Prop
  | [], G => guardD o all G ∧ De.nx G
  | x :: xs, G => guardD o all G ∧ tg x G fun G1 => body { nx := forD o all tg body De xs, rt := De.rt, bk := De.nx, ct := forD o all tg body De xs } G1
def mFor (mi : ID) (tg : GD) (body : SD) : SD := fun De G => mi G fun o xs => forD o xs tg body De xs G
theorem snds_for {wi : TI} {mi : ID} {g : TG} {tg : GD} {tb : TS} {mb : SD} (hi : SndI K wi mi) (hg : SndG K g tg) (hb : SndS K tb mb) : SndS K (tFor wi g tb) (mFor mi tg mb) := by
  intro b F H σ G De E rg hm l
  refine hi b F H σ G _ _ rg hm fun J F1 H1 o xs r1 x1 it ho q1 => ?_
  refine ⟨fun i m σ' H' => i ≤ xs.length ∧ m = xs.length - i ∧ ∃ F2 G2, RG K b F2 H' σ' G2 ∧ Ext b F1 F2 ∧ forD o xs tg mb De (xs.drop i) G2, ⟨xs.length, Nat.zero_le _, by simp, F1, G, r1, .refl, by rw [List.drop_zero]; exact q1⟩, ?_⟩
  rintro i m σ2 H2 ⟨hi, rfl, F2, G2, r2, x2, hf⟩
  have gd : guardD o xs G2 := by
    cases e : xs.drop i with
    | nil => rw [e] at hf; exact hf.1
    | cons x r => rw [e] at hf; exact hf.1
  have gh : guardH K b.s o F2 H2 xs := by
    cases o with
    | none => trivial
    | some ip =>
      obtain ⟨j, p⟩ := ip
      exact (r2.own j p _ gd).2.1
  by_cases hlt : i < xs.length
  · right
    have hd : xs.drop i = xs[i] :: xs.drop (i + 1) := List.drop_eq_getElem_cons hlt
    rw [hd] at hf
    obtain ⟨g1, g2⟩ := it.go F2 H2 r2.toRB x2 gh i _ (List.getElem?_eq_getElem hlt)
    refine ⟨g1, fun σ' H' => ∃ F3 G3, RG K b F3 H' σ' G3 ∧ Ext b F1 F3 ∧ forD o xs tg mb De (xs.drop (i + 1)) G3, fun σ' H' ⟨F3, G3, z⟩ => ⟨xs.length - (i + 1), by omega, hlt, rfl, F3, G3, z⟩, fun v H3 y => ?_⟩
    obtain ⟨rfl, px⟩ := g2 v H3 y
    refine hg b F2 H3 v _ σ2 G2 _ _ r2 px hf.2 fun σ3 G3 r3 h3 => ?_
    refine hb b F2 H3 σ3 G3 _ _ r3 h3 ⟨fun σ' F' H' G' r' x' q' => ⟨F', G', r', x2.trans x', q'⟩, fun σ' F' H' G' v d r' x' p' q' => l.rt σ' F' H' G' v d r' ((x1.trans x2).trans x') p' q', fun σ' F' H' G' r' x' q' => l.nx σ' F' H' G' r' ((x1.trans x2).trans x') q', fun σ' F' H' G' r' x' q' => ⟨F', G', r', x2.trans x', q'⟩⟩
  · left
    have e : i = xs.length := by omega
    subst e
    rw [List.drop_length] at hf
    exact ⟨it.stop F2 H2 r2.toRB x2 gh, l.nx σ2 F2 H2 G2 r2 (x1.trans x2) hf.2⟩
def mWhile (mc : BD) (mb : SD) : SD := fun De G => ∃ W : Nat → En → Prop, (∃ n, W n G) ∧ ∀ n G, W n G → mc G fun c => if c = true then mb { nx := fun G' => ∃ n', n' < n ∧ W n' G', rt := De.rt, bk := De.nx, ct := fun G' => ∃ n', n' < n ∧ W n' G' } G else De.nx G
theorem snds_while {tc : TT} {mc : BD} {tb : TS} {mb : SD} (hc : SndT K tc mc) (hb : SndS K tb mb) : SndS K (tWhile tc tb) (mWhile mc mb) := by
  intro b F H σ G De E rg hm l
  obtain ⟨W, ⟨n0, w0⟩, turn⟩ := hm
  refine ⟨fun n σ' H' => ∃ F2 G2, RG K b F2 H' σ' G2 ∧ Ext b F F2 ∧ W n G2, ⟨n0, F, G, rg, .refl, w0⟩, ?_⟩
  rintro n σ2 H2 ⟨F2, G2, r2, x2, w2⟩
  refine hc b F2 H2 σ2 G2 _ _ r2 (turn n G2 w2) fun c F3 H3 r3 x3 q3 => ?_
  cases c with
  | true =>
    refine iteT ⟨fun σ' H' => ∃ n', n' < n ∧ ∃ F2 G2, RG K b F2 H' σ' G2 ∧ Ext b F F2 ∧ W n' G2, fun σ' H' h => h, ?_⟩
    exact hb b F3 H3 σ2 G2 _ _ r3 q3 ⟨fun σ' F' H' G' r' x' ⟨n', hn, w'⟩ => ⟨n', hn, F', G', r', (x2.trans x3).trans x', w'⟩, fun σ' F' H' G' v d r' x' p' q' => l.rt σ' F' H' G' v d r' ((x2.trans x3).trans x') p' q', fun σ' F' H' G' r' x' q' => l.nx σ' F' H' G' r' ((x2.trans x3).trans x') q', fun σ' F' H' G' r' x' ⟨n', hn, w'⟩ => ⟨n', hn, F', G', r', (x2.trans x3).trans x', w'⟩⟩
  | false => exact iteF (l.nx σ2 F3 H3 G2 r3 (x2.trans x3) q3)
/-! ### lists of one's own, changed -/
def onOw (i : Nat) (G : En) (k : Addr → List D → Prop) : Prop := match G[i]? with
  | some (.ow p (.lst xs)) => k p xs
  | _ => False
def isOw (i : Nat) (G : En) : Prop := match G[i]? with
  | some (.ow _ (.lst _)) => True
  | _ => False
theorem isOw.ex {i : Nat} {G : En} (h : isOw i G) : ∃ p xs, G[i]? = some (.ow p (.lst xs)) := by
  unfold isOw at h
  split at h
  · exact ⟨_, _, by assumption⟩
  · exact h.elim
def mApp (i : Nat) (me : ED) : SD := fun De G => isOw i G ∧ me G fun d => onOw i G fun p xs => xs.length ≤ 1000000 ∧ De.nx (G.set i (.ow p (.lst (xs ++ [d]))))
theorem snds_app {i : Nat} {te : TE} {me : ED} (he : Snd K te me) : SndS K (tDrop (tBM K "list" rAppend (tVar i) (tCons te tNil))) (mApp i me) := by
  intro b F H σ G De E r h l
  obtain ⟨ho, h⟩ := h
  obtain ⟨p, xs, e⟩ := ho.ex
  obtain ⟨e1, ⟨vs, h1, h2⟩, _⟩ := r.own i p _ e
  refine ⟨_, e1, .inl ⟨rfl, _, SqL.of h1⟩, ?_⟩
  refine he b F H σ G _ _ r h fun v F1 H1 d r1 x1 p1 q1 => ?_
  unfold onOw at q1
  rw [e] at q1
  obtain ⟨hz, q1⟩ := q1
  obtain ⟨_, ⟨ws, h3, h4⟩, _⟩ := r1.own i p _ e
  refine ⟨p, ws, v, rfl, rfl, h3, by rw [h4.length, sizeLine_eq]; omega, ?_⟩
  exact l.nx _ F1 _ _ (r1.write e (h4.append (.cons p1 .nil))) x1 q1
def mSetIx (i : Nat) (mi mv : ED) : SD := fun De G => isOw i G ∧ mv G fun dv => mi G fun di => onOw i G fun p xs => match di with
  | .int k => (match ixN xs.length k with
    | some j => De.nx (G.set i (.ow p (.lst (xs.set j dv))))
    | none => False)
  | _ => False
theorem snds_setIx {i : Nat} {ti tv : TE} {mi mv : ED} (hi : Snd K ti mi) (hv : Snd K tv mv) : SndS K (tAsg tv (gSub (tVar i) ti rSetL)) (mSetIx i mi mv) := by
  intro b F H σ G De E r h l
  obtain ⟨ho, h⟩ := h
  obtain ⟨p, xs, e⟩ := ho.ex
  refine hv b F H σ G _ _ r h fun v F1 H1 d r1 x1 p1 q1 => ?_
  obtain ⟨e1, _⟩ := r1.own i p _ e
  refine ⟨_, e1, ?_⟩
  refine hi b F1 H1 σ G _ _ r1 q1 fun w F2 H2 di r2 x2 p2 q2 => ?_
  unfold onOw at q2
  rw [e] at q2
  simp only at q2
  split at q2
  · split at q2
    · rename_i j ej
      cases p2
      obtain ⟨_, ⟨ws, h3, h4⟩, _⟩ := r2.own i p _ e
      refine ⟨p, ws, _, j, rfl, rfl, h3, by rw [h4.length]; exact ej, ?_⟩
      exact l.nx _ F2 _ _ (r2.write e (RpL.set (Rp.mono x2.up d v p1) j h4)) (x1.trans x2) q2
    · exact q2.elim
  · exact q2.elim
/-- xs.insert(k, e) -/
def rInsL : V → List V → Hp → VK → Prop := fun x vs H Q => ∃ l xs i y, x = V.ref l ∧ vs = [V.int i, y] ∧ H l = some (HO.lst xs) ∧ xs.length < sizeLine ∧ 0 ≤ i ∧ i < 2 ^ 63 ∧ Q V.non (upd H l (HO.lst (List.take i.toNat xs ++ [y] ++ List.drop i.toNat xs)))
def mIns (i : Nat) (ma : AD) : SD := fun De G => isOw i G ∧ ma G fun ds => onOw i G fun p xs => match ds with
  | [.int k, d] => 0 ≤ k ∧ k ≤ 1000000 ∧ xs.length ≤ 1000000 ∧ De.nx (G.set i (.ow p (.lst (xs.take k.toNat ++ [d] ++ xs.drop k.toNat))))
  | _ => False
theorem snds_ins {i : Nat} {ta : TA} {ma : AD} (ha : SndA K ta ma) : SndS K (tDrop (tBM K "list" rInsL (tVar i) ta)) (mIns i ma) := by
  intro b F H σ G De E r h l
  obtain ⟨ho, h⟩ := h
  obtain ⟨p, xs, e⟩ := ho.ex
  obtain ⟨e1, ⟨vs, h1, h2⟩, _⟩ := r.own i p _ e
  refine ⟨_, e1, .inl ⟨rfl, _, SqL.of h1⟩, ?_⟩
  refine ha b F H σ G _ _ r h fun us F1 H1 ds r1 x1 p1 q1 => ?_
  unfold onOw at q1
  rw [e] at q1
  simp only at q1
  split at q1
  · obtain ⟨hk0, hk1, hz, q1⟩ := q1
    obtain ⟨v, w, rfl, p2, p3⟩ := p1.two
    cases p2
    obtain ⟨_, ⟨ws, h3, h4⟩, _⟩ := r1.own i p _ e
    refine ⟨p, ws, _, w, rfl, rfl, h3, by rw [h4.length, sizeLine_eq]; omega, hk0, by omega, ?_⟩
    exact l.nx _ F1 _ _ (r1.write e (((h4.take _).append (.cons p3 .nil)).append (h4.drop _))) x1 q1
  · exact q1.elim
/-- xs.remove(k), whole numbers, there -/
def mRem (i : Nat) (me : ED) : SD := fun De G => isOw i G ∧ me G fun d => onOw i G fun p xs => match d, intsOf xs with
  | .int k, some ns => k ∈ ns ∧ De.nx (G.set i (.ow p (.lst ((ns.eraseIdx (ns.idxOf k)).map .int))))
  | _, _ => False
theorem snds_rem {i : Nat} {te : TE} {me : ED} (he : Snd K te me) : SndS K (tDrop (tBM K "list" rRemI (tVar i) (tCons te tNil))) (mRem i me) := by
  intro b F H σ G De E r h l
  obtain ⟨ho, h⟩ := h
  obtain ⟨p, xs, e⟩ := ho.ex
  obtain ⟨e1, ⟨vs, h1, h2⟩, _⟩ := r.own i p _ e
  refine ⟨_, e1, .inl ⟨rfl, _, SqL.of h1⟩, ?_⟩
  refine he b F H σ G _ _ r h fun v F1 H1 d r1 x1 p1 q1 => ?_
  unfold onOw at q1
  rw [e] at q1
  simp only at q1
  split at q1
  · rename_i k ns en
    obtain ⟨hm, q1⟩ := q1
    cases p1
    obtain ⟨_, ⟨ws, h3, h4⟩, _⟩ := r1.own i p _ e
    have ew := h4.intsOf en
    subst ew
    have hl : ns.idxOf k < ns.length := List.idxOf_lt_length_iff.mpr hm
    refine ⟨p, ns, k, ns.idxOf k, rfl, rfl, h3, ?_, fun m hmz ez => ?_, ?_⟩
    · rw [List.getElem?_eq_getElem hl]
      exact congrArg some (List.getElem_idxOf hl)
    · obtain ⟨hm1, hm2⟩ := List.getElem?_eq_some_iff.mp ez
      have := List.not_of_lt_findIdx (p := (· == k)) (xs := ns) (i := m) hmz
      rw [hm2] at this
      simp at this
    · exact l.nx _ F1 _ _ (r1.write e (RpL.ints _)) x1 q1
  · exact q1.elim
end
end DL
set_option Elab.async false
set_option linter.all false
set_option autoImplicit false
set_option maxRecDepth 100000
namespace DL
open PySem PySem.Spec
open PyProof.Rows hiding St
open L2

section
variable {X : Cx} {pos p p2 : Pos} {e a b c o i : Expr} {es : List Expr} {te ta tb tc : TE} {m ma mb : ED} {tt tu : TT} {mt mu : BD} {x : Str}
theorem de_var {i : Nat} (h : PE X e (tVar i)) : DE X e (mVar i) := ⟨_, h, snd_var i⟩
theorem de_int {k : Int} {j} : DE X (.Constant (.int k) j pos) (mC (.int k)) := ⟨_, pe_int, snd_c fun _ _ => .int _⟩
theorem de_bl {k : Bool} {j} : DE X (.Constant (.bool k) j pos) (mC (.bl k)) := ⟨_, pe_bl, snd_c fun _ _ => .bl _⟩
theorem de_non {j} : DE X (.Constant .none j pos) (mC .non) := ⟨_, pe_non, snd_c fun _ _ => .non⟩
theorem de_str {y : Str} {j} : DE X (.Constant (.str y) j pos) (mC (.str y)) := ⟨_, pe_str, snd_c fun _ _ => .str _⟩
/-- a module's constant -/
structure Kon (K : PySem.W.Frag) (mg : Str → Option Value) (x : Str) (d : D) : Prop where
  ex : ∃ v u, mg x = some u ∧ RelV v u ∧ ∀ s F, Rp K s F v d
def tAny : TE := fun _ _ _ => False
theorem de_tup {k}  {n : AD} (h : DA X es n) : DE X (.Tuple es k pos) (mTup n) := ⟨_, pe_tup h.pe, snd_tup h.sn⟩
theorem df_lst  {n : AD} (h : DA X es n) : DF X (.List es pos) (mLst n) := ⟨_, pe_lst h.pe, sndf_lst h.sn⟩
theorem de_fz {n : AD} (h : DF X e n) : DE X e (mFz n) := ⟨_, h.pe, snd_fz h.sn⟩
theorem da_nil : DA X [] mNil := ⟨_, pa_nil, snd_nil⟩
theorem da_cons  {mr : AD} (h1 : DE X e m) (h2 : DA X es mr) (hs : starEach (e :: es) X.env = (false, eval e X.env) :: starEach es X.env := by rfl) : DA X (e :: es) (mCons m mr) := ⟨_, pa_cons h1.pe h2.pe hs, snd_cons h1.sn h2.sn⟩
theorem dq_of (h : DE X e m) : DQ X e (mSq m) := ⟨_, h.pe, sndq_of h.sn⟩
theorem dq_own {i : Nat} (h : PE X e (tVar i)) : DQ X e (mOwn i) := ⟨_, h, sndq_own i⟩
/-! ### operators -/
theorem de_op {op : Operator} {r : R2} {oo : OD} (ho : OpR X (binaryOp op) r) (so : SndO X.K r oo) (ha : DE X a ma) (hb : DE X b mb) : DE X (.BinOp a op b pos) (mOp oo ma mb) := ⟨_, pe_op ho ha.pe hb.pe, snd_op so ha.sn hb.sn⟩
theorem de_add (ha : DE X a ma) (hb : DE X b mb) : DE X (.BinOp a .Add b pos) (mOp (oI0 fun i j => .int (i + j)) ma mb) := de_op op_add (sndo_I0 fun _ _ _ _ => .int _) ha hb
theorem de_sub (ha : DE X a ma) (hb : DE X b mb) : DE X (.BinOp a .Sub b pos) (mOp (oI0 fun i j => .int (i - j)) ma mb) := de_op op_sub (sndo_I0 fun _ _ _ _ => .int _) ha hb
theorem de_mul (ha : DE X a ma) (hb : DE X b mb) : DE X (.BinOp a .Mult b pos) (mOp (oI CMulW fun i j => .int (i * j)) ma mb) := de_op op_mulW (sndo_I fun _ _ _ _ => .int _) ha hb
theorem de_fdiv (ha : DE X a ma) (hb : DE X b mb) : DE X (.BinOp a .FloorDiv b pos) (mOp (oI CDivW fun i j => .int (i / j)) ma mb) := de_op op_fdivW (sndo_I fun _ _ _ _ => .int _) ha hb
theorem de_mod (ha : DE X a ma) (hb : DE X b mb) : DE X (.BinOp a .Mod b pos) (mOp (oI (fun _ j => 0 < j) fun i j => .int (i % j)) ma mb) := de_op op_mod (sndo_I fun _ _ _ _ => .int _) ha hb
theorem de_catT (ha : DE X a ma) (hb : DE X b mb) : DE X (.BinOp a .Add b pos) (mOp oCatT ma mb) := de_op op_catA sndo_catT ha hb
theorem de_catL (ha : DE X a ma) (hb : DE X b mb) : DE X (.BinOp a .Add b pos) (mOp oCatL ma mb) := de_op op_cat sndo_catL ha hb
theorem de_repT (ha : DE X a ma) (hb : DE X b mb) : DE X (.BinOp a .Mult b pos) (mOp oRepT ma mb) := de_op op_repA sndo_repT ha hb
theorem df_repL (ha : DE X a ma) (hb : DE X b mb) : DF X (.BinOp a .Mult b pos) (mRepL ma mb) := ⟨_, pe_op op_rep ha.pe hb.pe, sndf_repL ha.sn hb.sn⟩
theorem un_neg' : UnR X (unaryOp .USub) (rU fun i => .int (-i)) := un_neg
def mNeg (m : ED) : ED := fun G Q => m G fun d => match d with
  | .int i => Q (.int (-i))
  | _ => False
theorem de_neg (ha : DE X a ma) : DE X (.UnaryOp .USub a pos) (mNeg ma) := ⟨_, pe_un un_neg ha.pe, by
  intro b F H σ G Qd Q rg hm k
  refine ha.sn b F H σ G _ _ rg hm fun v F1 H1 d r1 x1 p1 q1 => ?_
  split at q1
  · cases p1
    exact ⟨_, rfl, k _ F1 H1 _ r1 x1 (.int _) q1⟩
  · exact q1.elim⟩
/-! ### comparisons, as values and as tests -/
theorem de_cmp {op : CmpOp} {r : R2} {oo : OD} (ho : OpR X (compareOp op) r) (so : SndO X.K r oo) (ha : DE X a ma) (hb : DE X b mb) (h1 : op ≠ .In := by decide) (h2 : op ≠ .NotIn := by decide) : DE X (.Compare a [op] [b] pos) (mOp oo ma mb) := ⟨_, pe_cmpR ho ha.pe hb.pe (nomark b h1 h2), snd_op so ha.sn hb.sn⟩
theorem dt_cmp {op : CmpOp} {r : R2} {oo : OD} (ho : OpR X (compareOp op) r) (so : SndO X.K r oo) (ha : DE X a ma) (hb : DE X b mb) (h1 : op ≠ .In := by decide) (h2 : op ≠ .NotIn := by decide) : DT X (.Compare a [op] [b] pos) (mTst (mOp oo ma mb)) := ⟨_, pt_cmpR ho ha.pe hb.pe (nomark b h1 h2), sndt_test (snd_op so ha.sn hb.sn)⟩
theorem de_lt (ha : DE X a ma) (hb : DE X b mb) : DE X (.Compare a [.Lt] [b] pos) (mOp (oI0 fun i j => .bl (decide (i < j))) ma mb) := de_cmp op_lt (sndo_I0 fun _ _ _ _ => .bl _) ha hb
theorem de_le (ha : DE X a ma) (hb : DE X b mb) : DE X (.Compare a [.LtE] [b] pos) (mOp (oI0 fun i j => .bl (decide (i ≤ j))) ma mb) := de_cmp op_le (sndo_I0 fun _ _ _ _ => .bl _) ha hb
theorem de_gt (ha : DE X a ma) (hb : DE X b mb) : DE X (.Compare a [.Gt] [b] pos) (mOp (oI0 fun i j => .bl (decide (j < i))) ma mb) := de_cmp op_gt (sndo_I0 fun _ _ _ _ => .bl _) ha hb
theorem de_ge (ha : DE X a ma) (hb : DE X b mb) : DE X (.Compare a [.GtE] [b] pos) (mOp (oI0 fun i j => .bl (decide (j ≤ i))) ma mb) := de_cmp op_ge (sndo_I0 fun _ _ _ _ => .bl _) ha hb
theorem de_eq (hu : X.A.units + 64 < cLine) (ha : DE X a ma) (hb : DE X b mb) : DE X (.Compare a [.Eq] [b] pos) (mOp oEq ma mb) := de_cmp (op_eqD hu) sndo_eq ha hb
theorem de_ne (hu : X.A.units + 64 < cLine) (ha : DE X a ma) (hb : DE X b mb) : DE X (.Compare a [.NotEq] [b] pos) (mOp oNe ma mb) := de_cmp (op_neD hu) sndo_ne ha hb
theorem de_isN (ha : DE X a ma) (hb : DE X b mb) : DE X (.Compare a [.Is] [b] pos) (mOp oIsN ma mb) := de_cmp op_isN sndo_isN ha hb
theorem de_notN (ha : DE X a ma) (hb : DE X b mb) : DE X (.Compare a [.IsNot] [b] pos) (mOp oNotN ma mb) := de_cmp op_notN sndo_notN ha hb
theorem de_isB (ha : DE X a ma) (hb : DE X b mb) : DE X (.Compare a [.Is] [b] pos) (mOp oIsB ma mb) := de_cmp op_is_bl sndo_isB ha hb
theorem de_isNotB (ha : DE X a ma) (hb : DE X b mb) : DE X (.Compare a [.IsNot] [b] pos) (mOp oIsNotB ma mb) := de_cmp op_isnot_bl sndo_isNotB ha hb
theorem dt_lt (ha : DE X a ma) (hb : DE X b mb) : DT X (.Compare a [.Lt] [b] pos) (mTst (mOp (oI0 fun i j => .bl (decide (i < j))) ma mb)) := dt_cmp op_lt (sndo_I0 fun _ _ _ _ => .bl _) ha hb
theorem dt_le (ha : DE X a ma) (hb : DE X b mb) : DT X (.Compare a [.LtE] [b] pos) (mTst (mOp (oI0 fun i j => .bl (decide (i ≤ j))) ma mb)) := dt_cmp op_le (sndo_I0 fun _ _ _ _ => .bl _) ha hb
theorem dt_gt (ha : DE X a ma) (hb : DE X b mb) : DT X (.Compare a [.Gt] [b] pos) (mTst (mOp (oI0 fun i j => .bl (decide (j < i))) ma mb)) := dt_cmp op_gt (sndo_I0 fun _ _ _ _ => .bl _) ha hb
theorem dt_ge (ha : DE X a ma) (hb : DE X b mb) : DT X (.Compare a [.GtE] [b] pos) (mTst (mOp (oI0 fun i j => .bl (decide (j ≤ i))) ma mb)) := dt_cmp op_ge (sndo_I0 fun _ _ _ _ => .bl _) ha hb
theorem dt_eq (hu : X.A.units + 64 < cLine) (ha : DE X a ma) (hb : DE X b mb) : DT X (.Compare a [.Eq] [b] pos) (mTst (mOp oEq ma mb)) := dt_cmp (op_eqD hu) sndo_eq ha hb
theorem dt_ne (hu : X.A.units + 64 < cLine) (ha : DE X a ma) (hb : DE X b mb) : DT X (.Compare a [.NotEq] [b] pos) (mTst (mOp oNe ma mb)) := dt_cmp (op_neD hu) sndo_ne ha hb
theorem dt_isN (ha : DE X a ma) (hb : DE X b mb) : DT X (.Compare a [.Is] [b] pos) (mTst (mOp oIsN ma mb)) := dt_cmp op_isN sndo_isN ha hb
theorem dt_notN (ha : DE X a ma) (hb : DE X b mb) : DT X (.Compare a [.IsNot] [b] pos) (mTst (mOp oNotN ma mb)) := dt_cmp op_notN sndo_notN ha hb
theorem dt_isB (ha : DE X a ma) (hb : DE X b mb) : DT X (.Compare a [.Is] [b] pos) (mTst (mOp oIsB ma mb)) := dt_cmp op_is_bl sndo_isB ha hb
theorem dt_isNotB (ha : DE X a ma) (hb : DE X b mb) : DT X (.Compare a [.IsNot] [b] pos) (mTst (mOp oIsNotB ma mb)) := dt_cmp op_isnot_bl sndo_isNotB ha hb
theorem dt_val (h : DE X e m) (he : ∀ whole, isTrue e X.env whole = (do let v ← whole; standAt e.pos; holding [v] (truthy v)) := by intro _; rfl) : DT X e (mTst m) := ⟨_, pt_val h.pe he, sndt_tB h.sn⟩
theorem dw_and1 (h : DT X a mt) : DW X (.BoolOp .And [a] pos) mt := ⟨_, pw_and1 h.pe, h.sn⟩
theorem dw_or1 (h : DT X a mt) : DW X (.BoolOp .Or [a] pos) mt := ⟨_, pw_or1 h.pe, h.sn⟩
theorem dw_and (h : DT X a mt) (g : DW X (.BoolOp .And (b :: es) pos) mu) : DW X (.BoolOp .And (a :: b :: es) pos) (mAnd mt mu) := ⟨_, pw_and h.pe g.pe, sndt_and h.sn g.sn⟩
theorem dw_or (h : DT X a mt) (g : DW X (.BoolOp .Or (b :: es) pos) mu) : DW X (.BoolOp .Or (a :: b :: es) pos) (mOr mt mu) := ⟨_, pw_or h.pe g.pe, sndt_or h.sn g.sn⟩
theorem dt_w (h : DW X e mt) : DT X e mt := ⟨_, h.pe.pt, h.sn⟩
theorem dt_not (h : DT X a mt) : DT X (.UnaryOp .Not a pos) (mNot mt) := ⟨_, pt_not h.pe, sndt_not h.sn⟩
theorem de_one {op} (h : DE X a ma) : DE X (.BoolOp op [a] pos) ma := ⟨_, pe_one h.pe, h.sn⟩
theorem de_and (h : DE X a ma) (g : DE X (.BoolOp .And (b :: es) pos) mb) : DE X (.BoolOp .And (a :: b :: es) pos) (mAndV ma mb) := ⟨_, pe_and h.pe g.pe, snd_andV h.sn g.sn⟩
theorem de_or (h : DE X a ma) (g : DE X (.BoolOp .Or (b :: es) pos) mb) : DE X (.BoolOp .Or (a :: b :: es) pos) (mOrV ma mb) := ⟨_, pe_or h.pe g.pe, snd_orV h.sn g.sn⟩
theorem de_not (h : DE X a ma) : DE X (.UnaryOp .Not a pos) (mNotV ma) := ⟨_, pe_not h.pe, snd_notV h.sn⟩
theorem de_if (hc : DT X c mt) (ha : DE X a ma) (hb : DE X b mb) : DE X (.IfExp c a b pos) (mIf mt ma mb) := ⟨_, pe_ifExp hc.pe ha.pe hb.pe, snd_if hc.sn ha.sn hb.sn⟩
/-! ### subscripts -/
theorem de_ix  {mq : QD} (hq : DQ X a mq) (hi : DE X b mb) (hs : PlainIx b := by exact fun _ _ => rfl) : DE X (.Subscript a b pos) (mIx mq mb) := ⟨_, pe_ix ix_seq hq.pe hi.pe hs, snd_ix hq.sn hi.sn⟩
theorem de_dget (hu : X.A.units + 1 < cLine) (ha : DE X a ma) (hi : DE X b mb) (hs : NoSl b := by exact fun _ _ => rfl) : DE X (.Subscript a b pos) (mDGet ma mb) := ⟨_, pe_dget hu ha.pe hi.pe hs, snd_dget ha.sn hi.sn⟩
theorem dp_none : DP X none mNoP := ⟨_, po_none, sndp_none⟩
theorem dp_some (h : DE X e m) : DP X (some e) (mPart m) := ⟨_, po_some h.pe, sndp_some h.sn⟩
theorem de_slT {lo hi : Option Expr}  {ml mh : PD} (h : DE X e m) (hl : DP X lo ml) (hu : DP X hi mh) : DE X (.Subscript e (.Slice lo hi none p2) pos) (mSlT m ml mh) := ⟨_, pe_slice sl_tupA h.pe hl.pe hu.pe, snd_slT h.sn hl.sn hu.sn⟩
theorem df_slL {lo hi : Option Expr}  {mq : QD} {ml mh : PD} (h : DQ X e mq) (hl : DP X lo ml) (hu : DP X hi mh) : DF X (.Subscript e (.Slice lo hi none p2) pos) (mSlL mq ml mh) := ⟨_, pe_slice sl_list h.pe hl.pe hu.pe, sndf_slL h.sn hl.sn hu.sn⟩
/-! ### calls -/
/-- a def as its callers know it -/
structure CalD (P : Program) (w : World) (K : PySem.W.Frag) (mg : Str → Option Value) (base : Heap) (x : Str) (k : Nat) (fs : FS) : Prop where
  ex : ∃ (f : Addr) (fd : FuncData) (ps : List Str), FnOk P w K mg base CX0 k f fd ps (spD K fs) ∧ mg x = some (.ref f) ∧ PySem.W.keepIn K (.ref f) = true ∧ Binds K fd ps []
theorem CalD.mono {P : Program} {w : World} {K : PySem.W.Frag} {mg : Str → Option Value} {base : Heap} {x : Str} {j k : Nat} {fs : FS} (C : CalD P w K mg base x j fs) (h : j ≤ k) : CalD P w K mg base x k fs := by
  obtain ⟨f, fd, ps, F, r⟩ := C.ex
  exact ⟨f, fd, ps, F.mono h, r⟩
theorem de_call {k : Nat} {fs : FS}  {n : AD} (C : CalD X.prog X.w X.K X.mg X.base x k fs) (hr : Room k X.A) (ha : DA X (e :: es) n) (hg : Gl X x := by rfl) (hdb : (x == ("__debug__" : Str)) = false := by decide)
    (he : starEach (e :: es) X.env = (false, eval e X.env) :: starEach es X.env := by rfl) (hpl : (backTo pos (starEach es X.env)).any (·.1) = false := by rfl) : DE X (.Call (.Name x p) (e :: es) [] pos) (mCall fs n) := by
  obtain ⟨f, fd, ps, F, h1, h2, h3⟩ := C.ex
  exact ⟨_, pe_call F hr hg h1 h2 h3 .nil (fun _ _ _ _ _ _ _ h => h.elim) ha.pe hdb he hpl, snd_call ha.sn⟩
theorem de_cb {id : String} {r : List V → Hp → VK → Prop} {cc : CD}  {n : AD} (hc : CallR X (.builtin id) r) (sc : SndC X.K r cc) (hm : X.mg x = none) (hv : bootBuiltins x = some (.builtin id)) (ha : DA X (e :: es) n) (hg : Gl X x := by rfl) (hn : x ≠ "__name__" := by decide) (hdb : (x == ("__debug__" : Str)) = false := by decide)
    (he : starEach (e :: es) X.env = (false, eval e X.env) :: starEach es X.env := by rfl) (hpl : (backTo pos (starEach es X.env)).any (·.1) = false := by rfl) : DE X (.Call (.Name x p) (e :: es) [] pos) (mCB cc n) :=
  ⟨_, pe_callB hc hg hm hv ha.pe hn hdb he hpl, snd_cb sc ha.sn⟩
theorem de_ct {T : String} {r : List V → Hp → VK → Prop} {cc : CD}  {n : AD} (hc : CallR X (.type T) r) (sc : SndC X.K r cc) (hm : X.mg x = none) (hv : bootBuiltins x = some (.type T)) (ha : DA X (e :: es) n) (hg : Gl X x := by rfl) (hn : x ≠ "__name__" := by decide) (hdb : (x == ("__debug__" : Str)) = false := by decide)
    (he : starEach (e :: es) X.env = (false, eval e X.env) :: starEach es X.env := by rfl) (hpl : (backTo pos (starEach es X.env)).any (·.1) = false := by rfl) : DE X (.Call (.Name x p) (e :: es) [] pos) (mCB cc n) :=
  ⟨_, pe_callTy hc hg hm hv ha.pe hn hdb he hpl, snd_cb sc ha.sn⟩
theorem de_abs  {n : AD} (hm : X.mg "abs" = none) (ha : DA X (e :: es) n) (hg : Gl X "abs" := by rfl) (he : starEach (e :: es) X.env = (false, eval e X.env) :: starEach es X.env := by rfl) (hpl : (backTo pos (starEach es X.env)).any (·.1) = false := by rfl) : DE X (.Call (.Name "abs" p) (e :: es) [] pos) (mCB cAbs n) := de_cb call_abs sndc_abs hm (by decide +kernel) ha hg (by decide) (by decide) he hpl
theorem de_toInt  {n : AD} (hm : X.mg "int" = none) (ha : DA X (e :: es) n) (hg : Gl X "int" := by rfl) (he : starEach (e :: es) X.env = (false, eval e X.env) :: starEach es X.env := by rfl) (hpl : (backTo pos (starEach es X.env)).any (·.1) = false := by rfl) : DE X (.Call (.Name "int" p) (e :: es) [] pos) (mCB cInt n) := de_ct call_int1 sndc_int hm (by decide +kernel) ha hg (by decide) (by decide) he hpl
section
variable {tq : TE} {mq : QD}
theorem pa1 (h : PE X e te) (hs : starEach [e] X.env = (false, eval e X.env) :: starEach [] X.env := by rfl) : PA X [e] (tCons te tNil) := pa_cons h pa_nil hs
theorem de_len (hm : X.mg "len" = none) (hq : DQ X e mq) (hg : Gl X "len" := by rfl) (he : starEach [e] X.env = (false, eval e X.env) :: starEach [] X.env := by rfl) (hpl : (backTo pos (starEach [] X.env)).any (·.1) = false := by rfl) : DE X (.Call (.Name "len" p) [e] [] pos) (mLen mq) :=
  ⟨_, pe_callB (r := rLenS X.K) call_len_seq hg hm (by decide +kernel) (pa1 hq.pe he) (by decide) (by decide) he hpl, snd_len hq.sn⟩
theorem de_tupO (hm : X.mg "tuple" = none) (hq : DQ X e mq) (hg : Gl X "tuple" := by rfl) (he : starEach [e] X.env = (false, eval e X.env) :: starEach [] X.env := by rfl) (hpl : (backTo pos (starEach [] X.env)).any (·.1) = false := by rfl) : DE X (.Call (.Name "tuple" p) [e] [] pos) (mTupO mq) :=
  ⟨_, pe_callTy (r := rTupO X.K) call_tuple_of hg hm (by decide +kernel) (pa1 hq.pe he) (by decide) (by decide) he hpl, snd_tupO hq.sn⟩
theorem df_lstO (hm : X.mg "list" = none) (hq : DQ X e mq) (hg : Gl X "list" := by rfl) (he : starEach [e] X.env = (false, eval e X.env) :: starEach [] X.env := by rfl) (hpl : (backTo pos (starEach [] X.env)).any (·.1) = false := by rfl) : DF X (.Call (.Name "list" p) [e] [] pos) (mLstO mq) :=
  ⟨_, pe_callTy (r := rLstO X.K) call_list_of hg hm (by decide +kernel) (pa1 hq.pe he) (by decide) (by decide) he hpl, sndf_lstO hq.sn⟩
theorem de_sum (hc : X.calm = true) (hm : X.mg "sum" = none) (hq : DQ X e mq) (hg : Gl X "sum" := by rfl) (he : starEach [e] X.env = (false, eval e X.env) :: starEach [] X.env := by rfl) (hpl : (backTo pos (starEach [] X.env)).any (·.1) = false := by rfl) : DE X (.Call (.Name "sum" p) [e] [] pos) (mSum mq) :=
  ⟨_, pe_callB (r := rSum X.K) (cr_sum hc) hg hm (by decide +kernel) (pa1 hq.pe he) (by decide) (by decide) he hpl, snd_sum hq.sn⟩
theorem de_any (hc : X.calm = true) (hm : X.mg "any" = none) (hq : DQ X e mq) (hg : Gl X "any" := by rfl) (he : starEach [e] X.env = (false, eval e X.env) :: starEach [] X.env := by rfl) (hpl : (backTo pos (starEach [] X.env)).any (·.1) = false := by rfl) : DE X (.Call (.Name "any" p) [e] [] pos) (mAny mq) :=
  ⟨_, pe_callB (r := rAny X.K) (cr_any hc) hg hm (by decide +kernel) (pa1 hq.pe he) (by decide) (by decide) he hpl, snd_any hq.sn⟩
theorem de_all (hc : X.calm = true) (hm : X.mg "all" = none) (hq : DQ X e mq) (hg : Gl X "all" := by rfl) (he : starEach [e] X.env = (false, eval e X.env) :: starEach [] X.env := by rfl) (hpl : (backTo pos (starEach [] X.env)).any (·.1) = false := by rfl) : DE X (.Call (.Name "all" p) [e] [] pos) (mAll mq) :=
  ⟨_, pe_callB (r := rAll X.K) (cr_all hc) hg hm (by decide +kernel) (pa1 hq.pe he) (by decide) (by decide) he hpl, snd_all hq.sn⟩
theorem de_isi {T : Str} {Ts : String} {tpos : Pos} (hT : Ts = "tuple" ∨ Ts = "int" ∨ Ts = "bool" ∨ Ts = "str" ∨ Ts = "list") (hm : X.mg "isinstance" = none) (hmT : X.mg T = none) (hvT : bootBuiltins T = some (.type Ts)) (h : DE X e m)
    (hg : Gl X "isinstance" := by rfl) (hgT : Gl X T := by rfl) (hnT : T ≠ "__name__" := by decide) (hdT : (T == ("__debug__" : Str)) = false := by decide)
    (he : starEach [e, .Name T tpos] X.env = (false, eval e X.env) :: starEach [.Name T tpos] X.env := by rfl) (he2 : starEach [.Name T tpos] X.env = (false, eval (.Name T tpos) X.env) :: starEach [] X.env := by rfl) (hpl : (backTo pos (starEach [.Name T tpos] X.env)).any (·.1) = false := by rfl) :
    DE X (.Call (.Name "isinstance" p) [e, .Name T tpos] [] pos) (mIsi Ts m) :=
  ⟨_, pe_callB call_isi hg hm (by decide +kernel) (pa_cons h.pe (pa_cons (pe_bltn (v := .ty Ts) hgT hmT hvT rfl hnT hdT) pa_nil he2) he) (by decide) (by decide) he hpl, snd_isi hT h.sn⟩
theorem de_index {apos : Pos} (hq : DQ X o mq) (hi : DE X e m)
    (hbase : attributeBase o "index" X.env (eval o X.env) = eval o X.env := by rfl)
    (hfew : ((backTo pos (starEach [e] X.env)).all (fun x => !x.1) && (backToKw pos (keywordEach [] X.env)).all (fun x => x.1.isSome)
      && decide (([e] : List Expr).length + ([] : List Keyword).length + (if ([] : List Keyword).isEmpty then 0 else 1) < 30)) = true := by rfl)
    (hline : (apos.endLine == pos.line) = true := by rfl) (hs : starEach [e] X.env = (false, eval e X.env) :: starEach [] X.env := by rfl) (hplain : (backTo pos (starEach [] X.env)).any (·.1) = false := by rfl) :
    DE X (.Call (.Attribute o "index" apos) [e] [] pos) (mIndex mq m) :=
  ⟨_, pe_bm PySem.F.plainAttrs_list PySem.F.slot_list_index PySem.F.type_list_index mt_index hq.pe (pa1 hi.pe hs) hbase hfew hline hs hplain, snd_index hq.sn hi.sn⟩
end
/-! ### walks -/
theorem di_seq {tg : Expr}  {mq : QD} (h : DQ X e mq) : DI X tg e (mSeqI mq) := ⟨_, pi_seq h.pe, sndi_seq h.sn⟩
theorem di_range1 {tg : Expr}  {n : AD} (hm : X.mg "range" = none) (h : DA X [a] n) (hg : Gl X "range" := by rfl) (hs : starEach [a] X.env = [(false, eval a X.env)] := by rfl) : DI X tg (.Call (.Name "range" p) [a] [] pos) (mRange1 n) := ⟨_, pi_range1 hg hm h.pe hs, sndi_range1 h.sn⟩
theorem di_range2 {tg : Expr}  {n : AD} (hm : X.mg "range" = none) (h : DA X [a, b] n) (hg : Gl X "range" := by rfl) (hs : starEach [a, b] X.env = [(false, eval a X.env), (false, eval b X.env)] := by rfl) (hs2 : starEach [b] X.env = [(false, eval b X.env)] := by rfl) : DI X tg (.Call (.Name "range" p) [a, b] [] pos) (mRange2 n) := ⟨_, pi_range2 hg hm h.pe hs hs2, sndi_range2 h.sn⟩
theorem dg_name {i : Nat} {y : Str} (h : PG X (.Name y pos) (gName i)) : DG X (.Name y pos) (gName i) (gNm i) := ⟨h, sndg_name i⟩
structure DTs (X : Cx) (ifs : List Expr) (m : BD) : Prop where
  ex : ∃ t, PTs X ifs t ∧ SndT X.K t m
def mYes : BD := fun _ Q => Q true
theorem dts_nil : DTs X [] mYes := ⟨_, pts_nil, fun b F H σ G Qd Q r h k => k true F H r .refl h⟩
theorem dts_one (h : DT X a mt) : DTs X [a] mt := ⟨_, pts_one h.pe, h.sn⟩
def Tm (K : PySem.W.Frag) (m : ED) : TE := fun σ H Q => ∃ (b : Bk) (F : Hp) (G : En) (Qd : D → Prop), RG K b F H σ G ∧ m G Qd ∧ ∀ v F' H' d, RG K b F' H' σ G → Ext b F F' → Rp K b.s F' v d → Qd d → Q v H'
theorem DE.can {X : Cx} {e : Expr} {m : ED} (h : DE X e m) : PE X e (Tm X.K m) := ⟨fun pins s σ H Q I ⟨b, F, G, Qd, rg, hm, k⟩ => h.pe.run pins s σ H Q I (h.sn b F H σ G Qd Q rg hm k)⟩
theorem snd_Tm {K : PySem.W.Frag} (m : ED) : Snd K (Tm K m) m := fun b F H σ G Qd Q rg hm k => ⟨b, F, G, Qd, rg, hm, k⟩
def TTm (K : PySem.W.Frag) (m : BD) : TT := fun σ H Q => ∃ (b : Bk) (F : Hp) (G : En) (Qd : Bool → Prop), RG K b F H σ G ∧ m G Qd ∧ ∀ c F' H', RG K b F' H' σ G → Ext b F F' → Qd c → Q c H'
theorem DTs.can {X : Cx} {ifs : List Expr} {m : BD} (h : DTs X ifs m) : PTs X ifs (TTm X.K m) := by
  obtain ⟨t, h1, h2⟩ := h.ex
  exact ⟨fun pins s σ H Q I ⟨b, F, G, Qd, rg, hm, k⟩ => h1.run pins s σ H Q I (h2 b F H σ G Qd Q rg hm k)⟩
theorem sndt_TTm {K : PySem.W.Frag} (m : BD) : SndT K (TTm K m) m := fun b F H σ G Qd Q rg hm k => ⟨b, F, G, Qd, rg, hm, k⟩
section
variable {elt tg iter : Expr} {ifs : List Expr} {scope : Scope} {own : List (Str × Nat)} {mi : ID} {g : TG} {mg : GD}
theorem df_lc (hc : X.calm = true) (hN : X.N.Nodup) (hi : DI X tg iter mi) (ok : BlkOk X.N X.env.scope scope own)
    (tok : TgOk g mg (own.map (·.2))) (hg : ∀ (s : Shared) (H : Hp) (C : Addr) (cl : List (Str × Addr)) (fp : List Addr), DG (X.blk s H scope (compEnvC scope cl C X.env) fp) tg g mg)
    (ht : ∀ (s : Shared) (H : Hp) (C : Addr) (cl : List (Str × Addr)) (fp : List Addr), DTs (X.blk s H scope (compEnvC scope cl C X.env) fp) ifs mt)
    (he : ∀ (s : Shared) (H : Hp) (C : Addr) (cl : List (Str × Addr)) (fp : List Addr), DE (X.blk s H scope (compEnvC scope cl C X.env) fp) elt m) (hs : ∀ x, foldedSetIterable iter X.env x = pure x := by intro _; rfl) :
    DF X (.ListComp elt [⟨tg, iter, ifs, 0⟩] scope pos) (mLc (own.map (·.2)) mi mg mt m) :=
  ⟨_, pe_lc (tt := TTm X.K mt) (te := Tm X.K m) hc hN hi.pe ok (fun s H C cl fp => (hg s H C cl fp).pg) (fun s H C cl fp => (ht s H C cl fp).can) (fun s H C cl fp => (he s H C cl fp).can) hs, sndf_lc hi.sn (hg X.s_0 X.H_0 0 [] []).sn tok (sndt_TTm mt) (snd_Tm m)⟩
end
end
/-! ### statements -/
section
variable {X : Cx} {pos pos' p p2 : Pos} {st : Stmt} {sts : List Stmt} {e a b c o : Expr} {es : List Expr} {te ta tb : TE} {me ma mb : ED} {t u : TS} {m n : SD} {x y : Str}
theorem dss_nil : DSs X [] mNext := ⟨_, pss_nil, snds_next⟩
theorem dss_cons (h1 : DS X st m) (h2 : DSs X sts n) : DSs X (st :: sts) (mSeq m n) := ⟨_, pss_cons h1.ps h2.ps, snds_seq h1.sn h2.sn⟩
theorem dss_one (h1 : DS X st m) : DSs X [st] m := ⟨_, pss_one h1.ps, h1.sn⟩
theorem dss_give (i : Nat) (h : DSs X sts m) : DSs X sts (mGive i m) := ⟨_, h.ps, snds_give h.sn⟩
theorem ds_pass : DS X (.Pass pos) mNext := ⟨_, ps_pass, snds_next⟩
theorem ds_break : DS X (.Break pos) mBreak := ⟨_, ps_break, snds_break⟩
theorem ds_cont : DS X (.Continue pos) mCont := ⟨_, ps_continue, snds_cont⟩
theorem ds_set {i : Nat} (hN : X.N.Nodup) (hi : X.N[i]? = some x) (hx : Loc X.env.scope x) (he : DE X e me) (hs : swapsWith e (some (.Name x pos')) pos.line X.env = pure false := by rfl) (hf : X.fn x = true ∨ X.env.scope.names.lookup x = some .local := by first | exact .inl rfl | exact .inr rfl | assumption) :
    DS X (.Assign [.Name x pos'] e pos) (mSet i me) := ⟨_, ps_set hN hi hx he.pe hs hf, snds_set he.sn⟩
theorem ds_setF {i : Nat} {mf : AD} (hN : X.N.Nodup) (hi : X.N[i]? = some x) (hx : Loc X.env.scope x) (he : DF X e mf) (hs : swapsWith e (some (.Name x pos')) pos.line X.env = pure false := by rfl) (hf : X.fn x = true ∨ X.env.scope.names.lookup x = some .local := by first | exact .inl rfl | exact .inr rfl | assumption) :
    DS X (.Assign [.Name x pos'] e pos) (mSetOw i mf) := ⟨_, ps_set hN hi hx he.pe hs hf, snds_setOw he.sn⟩
theorem ds_asg {tg : Expr} {g : TG} {mg : GD} (he : DE X e me) (hg : DG X tg g mg) (hs : swapsWithSole [tg] e pos.line X.env = pure false := by rfl) (hw : swappedStores [tg] e X.env = pure none := by rfl)
    (h1 : (assignEach [tg] X.env).map (·.2) = [assign tg X.env] := by rfl) : DS X (.Assign [tg] e pos) (mAsg me mg) := ⟨_, ps_asg he.pe hg.pg hs hw h1, snds_asg he.sn hg.sn⟩
/-- y = [..] on one line, the name a local -/
structure DLs (X : Cx) (st : Stmt) (i : Nat) (mf : AD) : Prop where
  ex : ∃ te, PS X st (tAsg te (gName i)) ∧ SndF X.K te mf
theorem ps_lcS {i : Nat} {py : Pos} {elt tg iter : Expr} {ifs : List Expr} {scope : Scope} {own : List (Str × Nat)} {mi : ID} {g : TG} {mg : GD} {mt : BD} (hc : X.calm = true) (hN : X.N.Nodup) (hy : X.N[i]? = some y) (hyl : X.env.scope.names.lookup y = some .local)
    (hsw : swapsWith (.ListComp elt [⟨tg, iter, ifs, 0⟩] scope p) (some (.Name y py)) pos.line X.env = pure true) (hi : DI X tg iter mi) (ok : BlkOk X.N X.env.scope scope own)
    (tok : TgOk g mg (own.map (·.2))) (hg : ∀ (s : Shared) (H : Hp) (C : Addr) (cl : List (Str × Addr)) (fp : List Addr), DG (X.blk s H scope (compEnvC scope cl C X.env) fp) tg g mg)
    (ht : ∀ (s : Shared) (H : Hp) (C : Addr) (cl : List (Str × Addr)) (fp : List Addr), DTs (X.blk s H scope (compEnvC scope cl C X.env) fp) ifs mt)
    (he : ∀ (s : Shared) (H : Hp) (C : Addr) (cl : List (Str × Addr)) (fp : List Addr), DE (X.blk s H scope (compEnvC scope cl C X.env) fp) elt me) (hs : ∀ x, foldedSetIterable iter X.env x = pure x := by intro _; rfl) :
    DLs X (.Assign [.Name y py] (.ListComp elt [⟨tg, iter, ifs, 0⟩] scope p) pos) i (mLc (own.map (·.2)) mi mg mt me) :=
  ⟨_, ps_setLc (tt := TTm X.K mt) (te := Tm X.K me) hc hN hy hyl hsw hi.pe ok (fun s H C cl fp => (hg s H C cl fp).pg) (fun s H C cl fp => (ht s H C cl fp).can) (fun s H C cl fp => (he s H C cl fp).can) hs, sndf_lc hi.sn (hg X.s_0 X.H_0 0 [] []).sn tok (sndt_TTm mt) (snd_Tm me)⟩
/-- .. laid for good -/
theorem ds_lc {i : Nat} {mf : AD} (h : DLs X st i mf) : DS X st (mSet i (mFz mf)) := let ⟨_, h1, h2⟩ := h.ex; ⟨_, h1, snds_set (snd_fz h2)⟩
/-- .. as one's own -/
theorem ds_lcO {i : Nat} {mf : AD} (h : DLs X st i mf) : DS X st (mSetOw i mf) := let ⟨_, h1, h2⟩ := h.ex; ⟨_, h1, snds_setOw h2⟩
theorem ds_par {i j : Nat}  {n : AD} {px py pt : Pos} {kt k2 pt2} (hc : X.calm = true) (hN : X.N.Nodup) (hi : X.N[i]? = some x) (hj : X.N[j]? = some y) (hij : i ≠ j)
    (hx : X.env.scope.names.lookup x = some .local) (hy : X.env.scope.names.lookup y = some .local) (ha : DA X [a, b] n)
    (hw : swappedStores [.Tuple [.Name x px, .Name y py] kt pt] (.Tuple [a, b] k2 pt2) X.env = pure (some [x, y]) := by rfl)
    (hs : swapsWithSole [.Tuple [.Name x px, .Name y py] kt pt] (.Tuple [a, b] k2 pt2) pos.line X.env = pure false := by rfl) :
    DS X (.Assign [.Tuple [.Name x px, .Name y py] kt pt] (.Tuple [a, b] k2 pt2) pos) (mPar i j n) := ⟨_, ps_par hc hN hi hj hij hx hy ha.pe hw hs, snds_par ha.sn⟩
/-- .. the second one a new list, one's own -/
theorem ds_parO {i j : Nat} {mf : AD} {px py pt : Pos} {kt k2 pt2} (hc : X.calm = true) (hN : X.N.Nodup) (hi : X.N[i]? = some x) (hj : X.N[j]? = some y) (hij : i ≠ j)
    (hx : X.env.scope.names.lookup x = some .local) (hy : X.env.scope.names.lookup y = some .local) (ha : DE X a ma) (hb : DF X b mf)
    (hw : swappedStores [.Tuple [.Name x px, .Name y py] kt pt] (.Tuple [a, b] k2 pt2) X.env = pure (some [x, y]) := by rfl)
    (hs : swapsWithSole [.Tuple [.Name x px, .Name y py] kt pt] (.Tuple [a, b] k2 pt2) pos.line X.env = pure false := by rfl)
    (h1 : starEach [a, b] X.env = (false, eval a X.env) :: starEach [b] X.env := by rfl) (h2 : starEach [b] X.env = (false, eval b X.env) :: starEach [] X.env := by rfl) :
    DS X (.Assign [.Tuple [.Name x px, .Name y py] kt pt] (.Tuple [a, b] k2 pt2) pos) (mParO i j ma mf) := ⟨_, ps_par hc hN hi hj hij hx hy (pa_cons ha.pe (pa_cons hb.pe pa_nil h2) h1) hw hs, snds_parO ha.sn hb.sn⟩
theorem ds_expr (he : DE X e me) (hs : swapsWith e none pos.line X.env = pure false := by rfl) : DS X (.Expr e pos) (mDrop me) := ⟨_, ps_expr he.pe hs, snds_drop he.sn⟩
theorem ds_ret (he : DE X e me) : DS X (.Return (some e) pos) (mRet me) := ⟨_, ps_ret he.pe, snds_ret he.sn⟩
theorem ds_retN : DS X (.Return none pos) mRetN := ⟨_, ps_retN, snds_retN⟩
theorem ds_if {sa sb : List Stmt}  {mc : BD} (hc : DT X c mc) (ha : DSs X sa m) (hb : DSs X sb n) : DS X (.If c sa sb pos) (mIfS mc m n) := ⟨_, ps_if hc.pe ha.ps hb.ps, snds_if hc.sn ha.sn hb.sn⟩
theorem ds_for {iter tg : Expr}  {mi : ID} {g : TG} {mg : GD} (hp : PassesOwn (model X.prog X.w) X.A X.env X.xe) (hc : X.calm = true) (hi : DI X tg iter mi) (hg : DG X tg g mg) (hb : DSs X sts m)
    (hs : ∀ x, foldedSetIterable iter X.env x = pure x := by intro _; rfl) : DS X (.For tg iter sts [] pos) (mFor mi mg m) := ⟨_, ps_for hp hc hi.pe hg.pg hb.ps hs, snds_for hi.sn hg.sn hb.sn⟩
theorem ds_while  {mc : BD} (hp : PassesOwn (model X.prog X.w) X.A X.env X.xe) (hc : DT X c mc) (hb : DSs X sts m) : DS X (.While c sts [] pos) (mWhile mc m) := ⟨_, ps_while hp hc.pe hb.ps, snds_while hc.sn hb.sn⟩
section
variable {apos : Pos} {i : Nat}
theorem ds_app (ho : PE X o (tVar i)) (he : DE X e me)
    (hbase : attributeBase o "append" X.env (eval o X.env) = eval o X.env := by rfl)
    (hfew : ((backTo pos (starEach [e] X.env)).all (fun x => !x.1) && (backToKw pos (keywordEach [] X.env)).all (fun x => x.1.isSome)
      && decide (([e] : List Expr).length + ([] : List Keyword).length + (if ([] : List Keyword).isEmpty then 0 else 1) < 30)) = true := by rfl)
    (hline : (apos.endLine == pos.line) = true := by rfl) (hs : starEach [e] X.env = (false, eval e X.env) :: starEach [] X.env := by rfl) (hplain : (backTo pos (starEach [] X.env)).any (·.1) = false := by rfl)
    (hsw : swapsWith (.Call (.Attribute o "append" apos) [e] [] pos) none pos'.line X.env = pure false := by rfl) :
    DS X (.Expr (.Call (.Attribute o "append" apos) [e] [] pos) pos') (mApp i me) :=
  ⟨_, ps_expr (pe_bm PySem.F.plainAttrs_list PySem.F.slot_list_append PySem.F.type_list_append mt_append ho (pa1 he.pe hs) hbase hfew hline hs hplain) hsw, snds_app he.sn⟩
theorem ds_rem (ho : PE X o (tVar i)) (he : DE X e me)
    (hbase : attributeBase o "remove" X.env (eval o X.env) = eval o X.env := by rfl)
    (hfew : ((backTo pos (starEach [e] X.env)).all (fun x => !x.1) && (backToKw pos (keywordEach [] X.env)).all (fun x => x.1.isSome)
      && decide (([e] : List Expr).length + ([] : List Keyword).length + (if ([] : List Keyword).isEmpty then 0 else 1) < 30)) = true := by rfl)
    (hline : (apos.endLine == pos.line) = true := by rfl) (hs : starEach [e] X.env = (false, eval e X.env) :: starEach [] X.env := by rfl) (hplain : (backTo pos (starEach [] X.env)).any (·.1) = false := by rfl)
    (hsw : swapsWith (.Call (.Attribute o "remove" apos) [e] [] pos) none pos'.line X.env = pure false := by rfl) :
    DS X (.Expr (.Call (.Attribute o "remove" apos) [e] [] pos) pos') (mRem i me) :=
  ⟨_, ps_expr (pe_bm PySem.F.plainAttrs_list PySem.F.slot_list_remove PySem.F.type_list_remove mt_remove ho (pa1 he.pe hs) hbase hfew hline hs hplain) hsw, snds_rem he.sn⟩
theorem ds_ins  {na : AD} (ho : PE X o (tVar i)) (ha : DA X [a, b] na)
    (hbase : attributeBase o "insert" X.env (eval o X.env) = eval o X.env := by rfl)
    (hfew : ((backTo pos (starEach [a, b] X.env)).all (fun x => !x.1) && (backToKw pos (keywordEach [] X.env)).all (fun x => x.1.isSome)
      && decide (([a, b] : List Expr).length + ([] : List Keyword).length + (if ([] : List Keyword).isEmpty then 0 else 1) < 30)) = true := by rfl)
    (hline : (apos.endLine == pos.line) = true := by rfl) (hs : starEach [a, b] X.env = (false, eval a X.env) :: starEach [b] X.env := by rfl) (hplain : (backTo pos (starEach [b] X.env)).any (·.1) = false := by rfl)
    (hsw : swapsWith (.Call (.Attribute o "insert" apos) [a, b] [] pos) none pos'.line X.env = pure false := by rfl) :
    DS X (.Expr (.Call (.Attribute o "insert" apos) [a, b] [] pos) pos') (mIns i na) :=
  ⟨_, ps_expr (pe_bm PySem.F.plainAttrs_list PySem.F.slot_list_insert PySem.F.type_list_insert (r := rInsL) mt_insert ho ha.pe hbase hfew hline hs hplain) hsw, snds_ins ha.sn⟩
theorem ds_setIx (ho : PE X o (tVar i)) (hi : DE X a ma) (hv : DE X e me)
    (hs : swapsWithSole [.Subscript o a apos] e pos.line X.env = pure false := by rfl) (hw : swappedStores [.Subscript o a apos] e X.env = pure none := by rfl)
    (h1 : (assignEach [.Subscript o a apos] X.env).map (·.2) = [assign (.Subscript o a apos) X.env] := by rfl)
    (h2 : ∀ v, assign (.Subscript o a apos) X.env v = (do
      let ov ← holding [v] (eval o X.env)
      let iv ← holding [v, ov] (eval a X.env)
      standAt apos
      holding [v, ov, iv] (setItem ov iv v)
      release [v, ov, iv] []) := by intro _; rfl) :
    DS X (.Assign [.Subscript o a apos] e pos) (mSetIx i ma me) := ⟨_, ps_asg hv.pe (pg_sub ho hi.pe set_list h2) hs hw h1, snds_setIx hi.sn hv.sn⟩
end
end
/-! ### a def -/
def startD (N : List Str) (ds : List D) : En := ds.map EV.fz ++ List.replicate (N.length - ds.length) EV.un
theorem rg_start {K : PySem.W.Frag} {N : List Str} {s c : Addr} {F H : Hp} {vs : List V} {ds : List D} (tk : TkOk s c H) (h1 : Same F H) (h2 : F s = none) (h3 : F c = none) (h4 : RpL K s F vs ds) :
    RG K ⟨s, c, fun a => if a = s ∨ a = c then none else H a⟩ F H (start N vs) (startD N ds) :=
  { keep := fun a o e => by
      have e : (if a = s ∨ a = c then none else H a) = some o := e
      split at e
      · cases e
      · exact e
    fz := h1, tk := tk, bs := if_pos (.inl rfl), bc := if_pos (.inr rfl), fs := h2, fc := h3
    len := by simp [L2.start, startD, h4.length]
    slot := fun i d e => by
      unfold startD at e
      by_cases hi : i < ds.length
      · rw [List.getElem?_append_left (by simpa using hi), List.getElem?_map] at e
        obtain ⟨d', e1, e2⟩ := Option.map_eq_some_iff.mp e
        cases e2
        obtain ⟨v, e3, e4⟩ := h4.get e1
        refine ⟨v, ?_, e4⟩
        unfold L2.start
        rw [List.getElem?_append_left (by rw [List.length_map, h4.length]; exact hi), List.getElem?_map, e3]
        rfl
      · rw [List.getElem?_append_right (by simpa using hi), List.getElem?_replicate] at e
        split at e <;> cases e
    own := fun i p c e => by
      unfold startD at e
      by_cases hi : i < ds.length
      · rw [List.getElem?_append_left (by simpa using hi), List.getElem?_map] at e
        obtain ⟨d', e1, e2⟩ := Option.map_eq_some_iff.mp e
        cases e2
      · rw [List.getElem?_append_right (by simpa using hi), List.getElem?_replicate] at e
        split at e <;> cases e
    dis := fun i j p q c d e _ => by
      unfold startD at e
      by_cases hi : i < ds.length
      · rw [List.getElem?_append_left (by simpa using hi), List.getElem?_map] at e
        obtain ⟨d', e1, e2⟩ := Option.map_eq_some_iff.mp e
        cases e2
      · rw [List.getElem?_append_right (by simpa using hi), List.getElem?_replicate] at e
        split at e <;> cases e }
theorem fnD {P : Program} {w : World} {K : PySem.W.Frag} {mg : Str → Option Value} {base : Heap} {x qual : Str} {params : Arguments} {body : List Stmt} {scope : Scope} {f : Addr} {fd : FuncData} {N ps : List Str} {k : Nat} {fs : FS} {m : SD}
    (F : FunD K x qual params body scope [] [] f fd) (S : FnScope N ps scope) (len : ∀ ds Q, fs ds Q → ds.length = ps.length)
    (hb : ∀ (cdv : Value) (A : Around) (outer : List Env) (s : Shared) (H : Hp) (E : XK), Room k (A.deeper (PyProof.Rows.envOfC qual scope s.heap.objs.size f cdv)) → DSs (cxOf CX0 P w K mg base N qual scope f cdv A outer s H E).nox body m)
    (pure : ∀ ds Q, fs ds Q → m { nx := fun _ => Q .non, rt := Q } (startD N ds)) : FnOk P w K mg base CX0 (k + 1) f fd ps (spD K fs) := by
  refine F.ok S (fun vs H Q E h => ?_) (fun cdv A outer s H vs Q E hr h => ?_)
  · obtain ⟨s, c, F, ds, Qd, tk, h1, h2, h3, h4, h5, _⟩ := h
    rw [h4.length]
    exact len ds Qd h5
  · obtain ⟨s1, c1, F, ds, Qd, tk, h1, h2, h3, h4, h5, h6⟩ := h
    have body := hb cdv A outer s H E hr
    refine ⟨_, body.ps.nox, body.sn _ F H _ _ _ _ (rg_start tk h1 h2 h3 h4) (pure ds Qd h5) ?_⟩
    have fin : ∀ σ' F' H' G' v d, RG K ⟨s1, c1, fun a => if a = s1 ∨ a = c1 then none else H a⟩ F' H' σ' G' → Ext ⟨s1, c1, fun a => if a = s1 ∨ a = c1 then none else H a⟩ F F' → Rp K s1 F' v d → Qd d → Q v H' := by
      intro σ' F' H' G' v d r x p q
      refine h6 v F' H' d (fun a o e1 e2 e3 => r.keep a o ?_) r.tk x.up (fun a o e => ?_) r.fz r.fs r.fc p q
      · show (if a = s1 ∨ a = c1 then none else H a) = some o
        rw [if_neg (by rintro (z | z); exact e1 z; exact e2 z)]
        exact e3
      · rcases x.new a o e with z | z
        · exact .inl z
        · have z : (if a = s1 ∨ a = c1 then none else H a) = none := z
          split at z
          · rename_i q
            rcases q with rfl | rfl
            · have := r.fs
              have e2 : F' a = none := this
              rw [e2] at e; cases e
            · have := r.fc
              have e2 : F' a = none := this
              rw [e2] at e; cases e
          · exact .inr z
    exact ⟨fun σ' F' H' G' r x q => fin σ' F' H' G' .non .non r x .non q, fun σ' F' H' G' v d r x p q => fin σ' F' H' G' v d r x p q, fun _ _ _ _ _ _ q => q.elim, fun _ _ _ _ _ _ q => q.elim⟩
end DL
set_option Elab.async false
set_option linter.all false
set_option autoImplicit false
set_option maxRecDepth 100000
namespace DL
open PySem PySem.Spec
open PyProof.Rows hiding St
open L2
section
variable {K : PySem.W.Frag}
/-! ### list(range(n)) -/
def mLrg1 (m : ED) : AD := fun G Q => m G fun d => match d with
  | .int n => -1000000 ≤ n ∧ n ≤ 1000000 ∧ Q ((List.range n.toNat).map fun i => .int (i : Nat))
  | _ => False
theorem sndf_lrg1 {t : TE} {m : ED} (h : Snd K t m) : SndF K (tLstRg (tRg1 t)) (mLrg1 m) := by
  intro b F H σ G Qd Q rg hm k
  refine h b F H σ G _ _ rg hm fun v F1 H1 d r1 x1 p1 q1 => ?_
  split at q1
  · rename_i n
    obtain ⟨h1, h2, q1⟩ := q1
    cases p1
    refine ⟨n, rfl, ⟨by omega, by omega, by omega, by omega, by omega⟩, fun p hp => ?_⟩
    have e : rgV 0 n = ((List.range n.toNat).map fun i => V.int (i : Nat)) := by
      unfold rgV
      rw [Int.sub_zero]
      refine List.map_congr_left fun i _ => ?_
      rw [Int.zero_add]
    have hr : ∀ xs : List Nat, RpL K b.s F1 (xs.map fun i => V.int (i : Nat)) (xs.map fun i => D.int (i : Nat)) := by
      intro xs
      induction xs with
      | nil => exact .nil
      | cons x r ih => exact .cons (.int _) ih
    rw [e]
    exact k p F1 _ _ (r1.alloc hp) x1 (r1.fresh hp (hr _)) q1
  · exact q1.elim
theorem df_lrg1 {X : Cx} {a : Expr} {p q pos pos2 : Pos}  {ma : ED} (hc : X.calm = true) (hm : X.mg "list" = none) (hmr : X.mg "range" = none) (h : DE X a ma) (hg : Gl X "list" := by rfl) (hgr : Gl X "range" := by rfl)
    (na : starEach [a] X.env = (false, eval a X.env) :: starEach [] X.env := by rfl)
    (nb : starEach [.Call (.Name "range" q) [a] [] pos2] X.env = (false, eval (.Call (.Name "range" q) [a] [] pos2) X.env) :: starEach [] X.env := by rfl) :
    DF X (.Call (.Name "list" p) [.Call (.Name "range" q) [a] [] pos2] [] pos) (mLrg1 ma) := ⟨_, pe_listRg hc hg hm (prg_1 hgr hmr h.pe na) nb, sndf_lrg1 h.sn⟩
/-! ### {'a': e, ..}, unlike texts -/
def mPairs : List (Str × ED) → En → (List (Str × D) → Prop) → Prop
  | [], _, Q => Q []
  | (x, m) :: r, G, Q => m G fun d => mPairs r G fun ds => Q ((x, d) :: ds)
def mDisp (l : List (Str × ED)) : ED := fun G Q => (l.map (·.1)).Nodup ∧ l.length ≤ 15 ∧ mPairs l G fun ds => Q (.dct ds)
inductive SndPr (K : PySem.W.Frag) : List (TE × TE) → List (Str × ED) → Prop
  | nil : SndPr K [] []
  | cons {x : Str} {t : TE} {m : ED} {ts : List (TE × TE)} {ms : List (Str × ED)} : Snd K t m → SndPr K ts ms → SndPr K ((tC (.str x), t) :: ts) ((x, m) :: ms)
theorem sndPr : ∀ {ts : List (TE × TE)} {ms : List (Str × ED)}, SndPr K ts ms → ∀ (b : Bk) (F H : Hp) (σ : L2.St) (G : En) (Qd : List (Str × D) → Prop) (Q : List (V × V) → Hp → Prop), RG K b F H σ G → mPairs ms G Qd →
    (∀ (kvs : List (Key × V)) F' H' ds, RG K b F' H' σ G → Ext b F F' → RpK K b.s F' kvs ds → kvs.map (·.1) = ms.map (fun m => Sum.inr m.1) → Qd ds → Q (kvs.map fun kv => (kV kv.1, kv.2)) H') → tPairs ts σ H Q
  | _, _, .nil, b, F, H, σ, G, Qd, Q, r, h, k => k [] F H [] r .refl .nil rfl h
  | _, _, .cons (x := x) s1 s2, b, F, H, σ, G, Qd, Q, r, h, k => by
    refine s1 b F H σ G _ _ r h fun v F1 H1 d r1 x1 p1 q1 => ?_
    refine sndPr s2 b F1 H1 σ G _ _ r1 q1 fun kvs F2 H2 ds r2 x2 p2 e2 q2 => ?_
    exact k ((.inr x, v) :: kvs) F2 H2 ((x, d) :: ds) r2 (x1.trans x2) (.cons (Rp.mono x2.up d v p1) p2) (by rw [List.map_cons, List.map_cons, e2]) q2
theorem mergeK_nodup : ∀ (kvs acc : List (Key × V)), ((acc ++ kvs).map (·.1)).Nodup → mergeK acc kvs = acc ++ kvs
  | [], acc, _ => by rw [List.append_nil]; rfl
  | kv :: r, acc, h => by
    have e : acc ++ kv :: r = (acc ++ [kv]) ++ r := by simp
    rw [e] at h ⊢
    have hp : putK acc kv.1 kv.2 = acc ++ [kv] := by
      unfold putK
      rw [if_neg ?_]
      rw [List.any_eq_true]
      rintro ⟨x, hx, hk⟩
      rw [List.map_append, List.map_append, List.append_assoc, List.nodup_append] at h
      exact h.2.2 x.1 (List.mem_map_of_mem hx) kv.1 (by simp) (of_decide_eq_true hk)
    show mergeK (putK acc kv.1 kv.2) r = _
    rw [hp]
    exact mergeK_nodup r _ h
theorem snd_disp {ts : List (TE × TE)} {ms : List (Str × ED)} (hs : SndPr K ts ms) : Snd K (tDisp ts) (mDisp ms) := by
  intro b F H σ G Qd Q rg hm k
  obtain ⟨nd, hl, hm⟩ := hm
  intro p hp
  have r0 := rg.alloc (o := .dK []) hp
  have nb := rg.bnone hp
  have nF := rg.fnone hp
  have ns := rg.nes hp
  have nc := rg.nec hp
  have ng : ∀ (i : Nat) (q : Addr) (c : OC), G[i]? = some (.ow q c) → p ∉ c.fp q := fun i q c e => rg.nop hp e
  have rp := r0.prot (p := p) upd_same nb ns nc ng
  refine sndPr hs _ F _ σ G _ _ rp hm fun kvs F1 H1 ds r1 x1 p1 ek q1 => ?_
  have hp1 : H1 p = some (.dK []) := r1.keep p _ (by show upd b.B p (.dK []) p = _; exact upd_same)
  refine ⟨hp1, kvs, rfl, ?_, ?_⟩
  · have := congrArg List.length ek
    rw [List.length_map, List.length_map] at this
    omega
  · have r2 := r1.unprot nb
    have x2 := x1.unprot nb
    have nF1 : F1 p = none := x1.kept nF
    have em : mergeK [] kvs = kvs := by
      rw [mergeK_nodup kvs [] (by
        rw [List.nil_append, ek]
        have : ms.map (fun m => (Sum.inr m.1 : Key)) = (ms.map (·.1)).map Sum.inr := by rw [List.map_map]; rfl
        rw [this]
        exact List.Pairwise.map Sum.inr (fun a b h e => h (Sum.inr.inj e)) nd)]
      rfl
    rw [em]
    obtain ⟨r3, x3⟩ := r2.layAt (p := p) (o := .dK kvs) nF1 nb ns nc ng
    exact k _ _ _ _ r3 (x2.trans x3) (.dct upd_same (RpK.mono x3.up _ _ p1)) q1
structure DPr (X : Cx) (pos : Pos) (keys : List (Option Expr)) (values : List Expr) (ms : List (Str × ED)) : Prop where
  ex : ∃ ts, PPs X pos keys values ts ∧ SndPr X.K ts ms
theorem dpr_nil {X : Cx} {pos : Pos} : DPr X pos [] [] [] := ⟨[], pps_nil, .nil⟩
theorem dpr_cons {X : Cx} {pos p : Pos} {x : Str} {j} {v : Expr} {ks : List (Option Expr)} {vs : List Expr} {m : ED} {ms : List (Str × ED)} (h : DE X v m) (r : DPr X pos ks vs ms) :
    DPr X pos (some (.Constant (.str x) j p) :: ks) (v :: vs) ((x, m) :: ms) := by
  obtain ⟨ts, h1, h2⟩ := r.ex
  exact ⟨_, pps_cons pe_str h.pe h1, .cons h.sn h2⟩
theorem de_disp {X : Cx} {pos : Pos} {keys : List (Option Expr)} {values : List Expr} {ms : List (Str × ED)} (h : DPr X pos keys values ms) (hall : keys.all (·.isSome) = true := by rfl) (hl : keys.length = values.length := by rfl) (h0 : keys ≠ [] := by exact List.cons_ne_nil _ _)
    (h15 : keys.length ≤ 15 := by decide) : DE X (.Dict keys values pos) (mDisp ms) := by
  obtain ⟨ts, h1, h2⟩ := h.ex
  exact ⟨_, pe_disp h1 hall hl h0 h15, snd_disp h2⟩
/-! ### tuples as keys -/
def mTupF (m : AD) : ED := fun G Q => m G fun ds => ds.length ≤ 1000000 ∧ Q (.tupF ds)
theorem snd_tupF {t : TA} {m : AD} (h1 : SndA K t m) : Snd K (tTup t) (mTupF m) := by
  intro b F H σ G Qd Q r h k
  refine h1 b F H σ G _ _ r h fun vs F1 H1 ds r1 x1 p1 q1 => ?_
  refine ⟨line1000 (by rw [p1.length]; exact q1.1), fun p hp => ?_⟩
  exact k _ (upd F1 p (.tup vs)) _ _ (r1.allocF hp) (x1.trans (r1.extF hp)) (.tupF upd_same (RpL.mono (same_upd (r1.fnone hp)) ds vs p1)) q1.2
theorem de_tupF {X : Cx} {es : List Expr} {k} {pos : Pos}  {n : AD} (h : DA X es n) : DE X (.Tuple es k pos) (mTupF n) := ⟨_, pe_tup h.pe, snd_tupF h.sn⟩
/-- a tuple that is known to stand as any tuple -/
def D.weak : D → D
  | .tupF xs => .tup xs
  | d => d
def mWeak (m : ED) : ED := fun G Q => m G fun d => Q d.weak
theorem Rp.weak {s : Addr} {F : Hp} {v : V} {d : D} (h : Rp K s F v d) : Rp K s F v d.weak := by
  cases h with
  | tupF h1 h2 => exact .tup (SqT.of h1) h2
  | non => exact .non
  | bl b => exact .bl b
  | int i => exact .int i
  | str x => exact .str x
  | tok => exact .tok
  | tup h1 h2 => exact .tup h1 h2
  | lst h1 h2 => exact .lst h1 h2
  | dct h1 h2 => exact .dct h1 h2
theorem de_weak {X : Cx} {e : Expr}  {m : ED} (h : DE X e m) : DE X e (mWeak m) := ⟨_, h.pe, fun b F H σ G Qd Q r q k => h.sn b F H σ G _ _ r q fun v F1 H1 d r1 x1 p1 q1 => k v F1 H1 _ r1 x1 p1.weak q1⟩
def keysOf : List D → Option (List Key)
  | [] => some []
  | .int i :: r => (keysOf r).map (Sum.inl i :: ·)
  | .str x :: r => (keysOf r).map (Sum.inr x :: ·)
  | _ :: _ => none
theorem RpL.keysOf {s : Addr} {F : Hp} : ∀ {vs : List V} {ds : List D} {ks : List Key}, RpL K s F vs ds → DL.keysOf ds = some ks → vs = ks.map kV
  | _, [], ks, h, e => by cases h; cases e; rfl
  | _, d :: ds, ks, h, e => by
    cases h with
    | cons h1 h2 =>
      cases d with
      | int i =>
        rw [DL.keysOf] at e
        obtain ⟨ms, e1, rfl⟩ := Option.map_eq_some_iff.mp e
        cases h1
        rw [RpL.keysOf h2 e1]; rfl
      | str i =>
        rw [DL.keysOf] at e
        obtain ⟨ms, e1, rfl⟩ := Option.map_eq_some_iff.mp e
        cases h1
        rw [RpL.keysOf h2 e1]; rfl
      | _ => cases e
def lookT (kvs : List (List Key × D)) (k : List Key) : Option D := (kvs.find? fun kv => decide (kv.1 = k)).map (·.2)
def putT (kvs : List (List Key × D)) (k : List Key) (v : D) : List (List Key × D) := if (kvs.any fun kv => decide (kv.1 = k)) = true then kvs.map (fun kv => if kv.1 = k then (kv.1, v) else kv) else kvs ++ [(k, v)]
theorem RpT.look {s : Addr} {F : Hp} {k : List Key} : ∀ {vs : List (List Key × V)} {ds : List (List Key × D)} {d : D}, RpT K s F vs ds → lookT ds k = some d → ∃ v, valV vs k = some v ∧ Rp K s F v d
  | _, _, _, .nil, e => by cases e
  | _, _, d, .cons (k := k') (v := v) (d := d') h1 h2, e => by
    unfold lookT at e
    unfold valV
    by_cases hk : k' = k
    · subst hk
      rw [List.find?_cons_of_pos (by simp)] at e ⊢
      cases e
      exact ⟨v, rfl, h1⟩
    · rw [List.find?_cons_of_neg (by simpa using hk)] at e ⊢
      exact RpT.look h2 e
theorem RpT.any {s : Addr} {F : Hp} {k : List Key} : ∀ {vs : List (List Key × V)} {ds : List (List Key × D)}, RpT K s F vs ds → (vs.any fun kv => decide (kv.1 = k)) = (ds.any fun kv => decide (kv.1 = k))
  | _, _, .nil => rfl
  | _, _, .cons h1 h2 => by rw [List.any_cons, List.any_cons, RpT.any h2]
theorem RpT.mapPut {s : Addr} {F : Hp} {k : List Key} {v : V} {d : D} (hp : Rp K s F v d) : ∀ {vs : List (List Key × V)} {ds : List (List Key × D)}, RpT K s F vs ds → RpT K s F (vs.map fun kv => if kv.1 = k then (kv.1, v) else kv) (ds.map fun kv => if kv.1 = k then (kv.1, d) else kv)
  | _, _, .nil => .nil
  | _, _, .cons (k := k') h1 h2 => by
    rw [List.map_cons, List.map_cons]
    by_cases hk : k' = k
    · rw [if_pos hk, if_pos hk]
      exact .cons hp (RpT.mapPut hp h2)
    · rw [if_neg hk, if_neg hk]
      exact .cons h1 (RpT.mapPut hp h2)
theorem RpT.snoc {s : Addr} {F : Hp} {k : List Key} {v : V} {d : D} (hp : Rp K s F v d) : ∀ {vs : List (List Key × V)} {ds : List (List Key × D)}, RpT K s F vs ds → RpT K s F (vs ++ [(k, v)]) (ds ++ [(k, d)])
  | _, _, .nil => .cons hp .nil
  | _, _, .cons h1 h2 => .cons h1 (RpT.snoc hp h2)
theorem RpT.put {s : Addr} {F : Hp} {k : List Key} {v : V} {d : D} {vs : List (List Key × V)} {ds : List (List Key × D)} (h : RpT K s F vs ds) (hp : Rp K s F v d) : RpT K s F (putK vs k v) (putT ds k d) := by
  unfold putK putT
  rw [h.any]
  split
  · exact h.mapPut hp
  · exact h.snoc hp
theorem RpT.length {s : Addr} {F : Hp} : ∀ {vs : List (List Key × V)} {ds : List (List Key × D)}, RpT K s F vs ds → vs.length = ds.length
  | _, _, .nil => rfl
  | _, _, .cons _ t => congrArg (· + 1) (RpT.length t)
/-- x = {} -/
def mNewT (i : Nat) : SD := fun De G => ∀ p, De.nx (G.set i (.ow p (.dt [])))
theorem snds_newT {i : Nat} : SndS K (tAsg tDNewT (gName i)) (mNewT i) := by
  intro b F H σ G De E r h l
  intro p hp
  refine l.nx _ F _ _ ((r.alloc hp).setOw (c := .dt []) ⟨⟨[], upd_same, .nil⟩, fun a ha => ?_, fun i q d e a ha => ?_⟩) .refl (h p)
  · rw [List.mem_singleton.mp ha]; exact ⟨r.bnone hp, r.fnone hp, r.nes hp, r.nec hp⟩
  · rw [List.mem_singleton.mp ha]; exact r.nop hp e
theorem ds_newT {X : Cx} {x : Str} {i : Nat} {pos pos' pos2 : Pos} (hN : X.N.Nodup) (hi : X.N[i]? = some x) (hx : Loc X.env.scope x) (hs : swapsWith (.Dict [] [] pos2) (some (.Name x pos')) pos.line X.env = pure false := by rfl) (hf : X.fn x = true ∨ X.env.scope.names.lookup x = some .local := by first | exact .inl rfl | exact .inr rfl | assumption) :
    DS X (.Assign [.Name x pos'] (.Dict [] [] pos2) pos) (mNewT i) := ⟨_, ps_set hN hi hx pe_dnewT hs hf, snds_newT⟩
def onDt (i : Nat) (G : En) (k : Addr → List (List Key × D) → Prop) : Prop := match G[i]? with
  | some (.ow p (.dt kvs)) => k p kvs
  | _ => False
def mPutT (i : Nat) (mk mv : ED) : SD := fun De G => mv G fun dv => onDt i G fun p kvs => mk G fun dk => match dk with
  | .tupF ds => (match keysOf ds with
    | some k => kvs.length ≤ 1000000 ∧ De.nx (G.set i (.ow p (.dt (putT kvs k dv))))
    | none => False)
  | _ => False
theorem snds_putT {i : Nat} {tk tv : TE} {mk mv : ED} (hk : Snd K tk mk) (hv : Snd K tv mv) : SndS K (sDPut (tVar i) tk tv) (mPutT i mk mv) := by
  intro b F H σ G De E r h l
  refine hv b F H σ G _ _ r h fun v F1 H1 d r1 x1 p1 q1 => ?_
  unfold onDt at q1
  split at q1
  · rename_i p kvs e
    obtain ⟨e1, _⟩ := r1.own i p _ e
    refine ⟨_, e1, ?_⟩
    refine hk b F1 H1 σ G _ _ r1 q1 fun w F2 H2 dk r2 x2 p2 q2 => ?_
    split at q2
    · split at q2
      · rename_i ds ks ek
        obtain ⟨hz, q2⟩ := q2
        cases p2 with
        | tupF a1 a2 =>
          obtain ⟨_, ⟨ws, h3, h4⟩, _⟩ := r2.own i p _ e
          have ev := a2.keysOf ek
          refine ⟨p, _, rfl, DPut.t (k := ks) h3 (by rw [← ev]; exact r2.fz _ _ a1) (by rw [h4.length, sizeLine_eq]; omega), ?_⟩
          exact l.nx _ F2 _ _ (r2.writeAt (d := .dt (putT kvs ks d)) e (List.mem_singleton.mpr rfl) (fun _ h => h) ⟨_, upd_same, h4.put (Rp.mono x2.up d v p1)⟩) (x1.trans x2) q2
      · exact q2.elim
    · exact q2.elim
  · exact q1.elim
theorem ds_putT {X : Cx} {o a e : Expr} {i : Nat} {pos apos : Pos}  {mk mv : ED} (hu : X.A.units + 1 < cLine) (ho : PE X o (tVar i)) (hk : DE X a mk) (hv : DE X e mv)
    (hs : swapsWith e (some (.Subscript o a apos)) pos.line X.env = pure false := by rfl) : DS X (.Assign [.Subscript o a apos] e pos) (mPutT i mk mv) := ⟨_, ps_dput hu ho hk.pe hv.pe hs, snds_putT hk.sn hv.sn⟩
def mGetT (i : Nat) (mk : ED) : ED := fun G Q => onDt i G fun _ kvs => mk G fun dk => match dk with
  | .tupF ds => (match keysOf ds with
    | some k => (match lookT kvs k with
      | some d => Q d
      | none => False)
    | none => False)
  | _ => False
theorem snd_getT {i : Nat} {tk : TE} {mk : ED} (hk : Snd K tk mk) : Snd K (tDGet (tVar i) tk) (mGetT i mk) := by
  intro b F H σ G Qd Q r h k
  unfold mGetT onDt at h
  split at h
  · rename_i p kvs e
    obtain ⟨e1, _⟩ := r.own i p _ e
    refine ⟨_, e1, ?_⟩
    refine hk b F H σ G _ _ r h fun w F2 H2 dk r2 x2 p2 q2 => ?_
    split at q2
    · split at q2
      · rename_i ds ks ek
        split at q2
        · rename_i d ed
          cases p2 with
          | tupF a1 a2 =>
            obtain ⟨_, ⟨ws, h3, h4⟩, _⟩ := r2.own i p _ e
            have ev := a2.keysOf ek
            obtain ⟨u, eu, pu⟩ := h4.look ed
            refine ⟨p, u, rfl, ?_, k u F2 H2 d r2 x2 pu q2⟩
            rw [← eu]
            exact DGet.t (k := ks) h3 (by rw [← ev]; exact r2.fz _ _ a1)
        · exact q2.elim
      · exact q2.elim
    · exact q2.elim
  · exact h.elim
theorem de_getT {X : Cx} {a b : Expr} {i : Nat} {pos : Pos}  {mk : ED} (hu : X.A.units + 1 < cLine) (ho : PE X a (tVar i)) (hk : DE X b mk) (hs : NoSl b := by exact fun _ _ => rfl) : DE X (.Subscript a b pos) (mGetT i mk) := ⟨_, pe_dget hu ho hk.pe hs, snd_getT hk.sn⟩
/-- a module's constant -/
theorem de_glob {X : Cx} {x : Str} {v : V} {u : Value} {d : D} {pos : Pos} (hm : X.mg x = some u) (r : RelV v u) (hd : ∀ s F, Rp X.K s F v d) (hg : Gl X x := by rfl) (hdb : (x == ("__debug__" : Str)) = false := by decide) : DE X (.Name x pos) (mC d) := ⟨_, pe_glob hg hm r hdb, snd_c hd⟩
end
end DL
set_option Elab.async false
set_option linter.all false
set_option autoImplicit false
set_option maxRecDepth 100000
namespace DL
open PySem PySem.Spec
open PyProof.Rows hiding St
open L2
section
variable {K : PySem.W.Frag}
/-! ### two at once, new lists among them -/
theorem sndFF {ta tb : TE} {fa fb : AD} (ha : SndF K ta fa) (hb : SndF K tb fb) (b : Bk) (F H : Hp) (σ : L2.St) (G : En) (Qd : List D → List D → Prop) (Q : List V → Hp → Prop) (r : RG K b F H σ G) (h : fa G fun xs => fb G fun ys => Qd xs ys)
    (k : ∀ p q F' H' xs ys, RG K b F' H' σ G → Ext b F F' → Fresh K b F' H' G p (.lst xs) → Fresh K b F' H' G q (.lst ys) → p ≠ q → Qd xs ys → Q [.ref p, .ref q] H') : tCons ta (tCons tb tNil) σ H Q := by
  refine ha b F H σ G _ _ r h fun p F1 H1 xs r1 x1 f1 q1 => ?_
  obtain ⟨vs, hp, hv⟩ := f1.at_
  obtain ⟨kb, kf, ks, kc⟩ := f1.k p (List.mem_singleton.mpr rfl)
  have rp := r1.prot hp kb ks kc fun i q c e => f1.g i q c e p (List.mem_singleton.mpr rfl)
  refine hb _ F1 H1 σ G _ _ rp q1 fun q F2 H2 ys r2 x2 f2 q2 => ?_
  have hp2 : H2 p = some (.lst vs) := r2.keep p _ (by show upd b.B p (.lst vs) p = _; exact upd_same)
  have hf2 : F2 p = none := x2.kept kf
  have hq : q ≠ p := fun e => by
    have z := (f2.k q (List.mem_singleton.mpr rfl)).1
    have z : upd b.B p (.lst vs) q = none := z
    rw [e, upd_same] at z; cases z
  refine k p q F2 H2 xs ys (r2.unprot kb) (x1.trans (x2.unprot kb)) ⟨⟨vs, hp2, RpL.mono x2.up _ _ hv⟩, fun a ha => ?_, fun i q c e a ha => ?_⟩ ⟨f2.at_, fun a ha => ⟨upd_none kb (f2.k a ha).1, (f2.k a ha).2⟩, f2.g⟩ (Ne.symm hq) q2
  · rw [List.mem_singleton.mp ha]; exact ⟨kb, hf2, ks, kc⟩
  · exact f1.g i q c e a ha
theorem sndFV {ta tb : TE} {fa : AD} {mb : ED} (ha : SndF K ta fa) (hb : Snd K tb mb) (b : Bk) (F H : Hp) (σ : L2.St) (G : En) (Qd : List D → D → Prop) (Q : List V → Hp → Prop) (r : RG K b F H σ G) (h : fa G fun xs => mb G fun d => Qd xs d)
    (k : ∀ p v F' H' xs d, RG K b F' H' σ G → Ext b F F' → Fresh K b F' H' G p (.lst xs) → Rp K b.s F' v d → Qd xs d → Q [.ref p, v] H') : tCons ta (tCons tb tNil) σ H Q := by
  refine ha b F H σ G _ _ r h fun p F1 H1 xs r1 x1 f1 q1 => ?_
  obtain ⟨vs, hp, hv⟩ := f1.at_
  obtain ⟨kb, kf, ks, kc⟩ := f1.k p (List.mem_singleton.mpr rfl)
  have rp := r1.prot hp kb ks kc fun i q c e => f1.g i q c e p (List.mem_singleton.mpr rfl)
  refine hb _ F1 H1 σ G _ _ rp q1 fun v F2 H2 d r2 x2 p2 q2 => ?_
  have hp2 : H2 p = some (.lst vs) := r2.keep p _ (by show upd b.B p (.lst vs) p = _; exact upd_same)
  have hf2 : F2 p = none := x2.kept kf
  refine k p v F2 H2 xs d (r2.unprot kb) (x1.trans (x2.unprot kb)) ⟨⟨vs, hp2, RpL.mono x2.up _ _ hv⟩, fun a ha => ?_, fun i q c e a ha => ?_⟩ p2 q2
  · rw [List.mem_singleton.mp ha]; exact ⟨kb, hf2, ks, kc⟩
  · exact f1.g i q c e a ha
theorem sndVF {ta tb : TE} {ma : ED} {fb : AD} (ha : Snd K ta ma) (hb : SndF K tb fb) (b : Bk) (F H : Hp) (σ : L2.St) (G : En) (Qd : D → List D → Prop) (Q : List V → Hp → Prop) (r : RG K b F H σ G) (h : ma G fun d => fb G fun xs => Qd d xs)
    (k : ∀ v p F' H' d xs, RG K b F' H' σ G → Ext b F F' → Rp K b.s F' v d → Fresh K b F' H' G p (.lst xs) → Qd d xs → Q [v, .ref p] H') : tCons ta (tCons tb tNil) σ H Q := by
  refine ha b F H σ G _ _ r h fun v F1 H1 d r1 x1 p1 q1 => ?_
  refine hb b F1 H1 σ G _ _ r1 q1 fun p F2 H2 xs r2 x2 f2 q2 => ?_
  exact k v p F2 H2 d xs r2 (x1.trans x2) (Rp.mono x2.up d v p1) f2 q2
theorem Fresh.fz {b : Bk} {F H : Hp} {G : En} {p : Addr} {c : OC} {i : Nat} {d : D} (f : Fresh K b F H G p c) : Fresh K b F H (G.set i (.fz d)) p c :=
  ⟨f.at_, f.k, fun k q c e => by
    rcases getset e with ⟨_, z, _⟩ | ⟨_, e⟩
    · cases z
    · exact f.g k q c e⟩
theorem Fresh.ow {b : Bk} {F H : Hp} {G : En} {p q : Addr} {xs ys : List D} {i : Nat} (f : Fresh K b F H G p (.lst xs)) (hpq : q ≠ p) : Fresh K b F H (G.set i (.ow q (.lst ys))) p (.lst xs) :=
  ⟨f.at_, f.k, fun k q' c e => by
    rcases getset e with ⟨_, z, _⟩ | ⟨_, e⟩
    · cases z
      intro a ha hb
      rw [List.mem_singleton.mp ha] at hb
      exact hpq (List.mem_singleton.mp hb).symm
    · exact f.g k q' c e⟩
theorem Fresh.alloc {b : Bk} {F H : Hp} {G : En} {p t : Addr} {c : OC} {o : HO} (f : Fresh K b F H G p c) (h : H t = none) : Fresh K b F (upd H t o) G p c :=
  ⟨f.at_.mono (fun _ _ z => z) (fun a _ o q => same_upd h a o q), f.k, f.g⟩
def mParOO (i j : Nat) (fa fb : AD) : SD := fun De G => fa G fun xs => fb G fun ys => ∀ p q, De.nx ((G.set i (.ow p (.lst xs))).set j (.ow q (.lst ys)))
def mParO1 (i j : Nat) (fa : AD) (mb : ED) : SD := fun De G => fa G fun xs => mb G fun d => ∀ p, De.nx ((G.set i (.ow p (.lst xs))).set j (.fz d))
theorem snds_parOO {i j : Nat} {ta tb : TE} {fa fb : AD} (ha : SndF K ta fa) (hb : SndF K tb fb) : SndS K (tPar i j (tCons ta (tCons tb tNil))) (mParOO i j fa fb) := by
  intro b F H σ G De E r h l
  exact sndFF ha hb b F H σ G _ _ r h fun p q F' H' xs ys r' x' f1 f2 hpq hq => ⟨.ref p, .ref q, rfl, l.nx _ F' H' _ ((r'.setOw f1).setOw (f2.ow hpq)) x' (hq p q)⟩
theorem snds_parO1 {i j : Nat} {ta tb : TE} {fa : AD} {mb : ED} (ha : SndF K ta fa) (hb : Snd K tb mb) : SndS K (tPar i j (tCons ta (tCons tb tNil))) (mParO1 i j fa mb) := by
  intro b F H σ G De E r h l
  exact sndFV ha hb b F H σ G _ _ r h fun p v F' H' xs d r' x' f1 pv hq => ⟨.ref p, v, rfl, l.nx _ F' H' _ ((r'.setOw f1).setFz pv) x' (hq p)⟩
/-- the same by a tuple that is taken apart again (names that a comprehension captures) -/
abbrev g2 (K : PySem.W.Frag) (i j : Nat) : TG := gTup K 2 (gCons (gName i) (gCons (gName j) gNil))
theorem snds_asgOO {i j : Nat} {ta tb : TE} {fa fb : AD} (ha : SndF K ta fa) (hb : SndF K tb fb) : SndS K (tAsg (tTup (tCons ta (tCons tb tNil))) (g2 K i j)) (mParOO i j fa fb) := by
  intro b F H σ G De E r h l
  show tCons ta (tCons tb tNil) σ H (fun xs H1 => xs.length ≤ sizeLine ∧ ∀ p, H1 p = none → g2 K i j (.ref p) σ (upd H1 p (.tup xs)) E.nx)
  refine sndFF ha hb b F H σ G _ _ r h fun p q F' H' xs ys r' x' f1 f2 hpq hq => ⟨by show 2 ≤ sizeLine; rw [sizeLine_eq]; omega, fun t ht => ?_⟩
  exact ⟨t, _, rfl, SqT.of upd_same, rfl, _, _, rfl, _, _, rfl, rfl, l.nx _ F' _ _ (((r'.alloc ht).setOw (f1.alloc ht)).setOw ((f2.alloc ht).ow hpq)) x' (hq p q)⟩
theorem snds_asgO1 {i j : Nat} {ta tb : TE} {fa : AD} {mb : ED} (ha : SndF K ta fa) (hb : Snd K tb mb) : SndS K (tAsg (tTup (tCons ta (tCons tb tNil))) (g2 K i j)) (mParO1 i j fa mb) := by
  intro b F H σ G De E r h l
  show tCons ta (tCons tb tNil) σ H (fun xs H1 => xs.length ≤ sizeLine ∧ ∀ p, H1 p = none → g2 K i j (.ref p) σ (upd H1 p (.tup xs)) E.nx)
  refine sndFV ha hb b F H σ G _ _ r h fun p v F' H' xs d r' x' f1 pv hq => ⟨by show 2 ≤ sizeLine; rw [sizeLine_eq]; omega, fun t ht => ?_⟩
  exact ⟨t, _, rfl, SqT.of upd_same, rfl, _, _, rfl, _, _, rfl, rfl, l.nx _ F' _ _ (((r'.alloc ht).setOw (f1.alloc ht)).setFz pv) x' (hq p)⟩
theorem snds_asgO {i j : Nat} {ta tb : TE} {ma : ED} {fb : AD} (ha : Snd K ta ma) (hb : SndF K tb fb) : SndS K (tAsg (tTup (tCons ta (tCons tb tNil))) (g2 K i j)) (mParO i j ma fb) := by
  intro b F H σ G De E r h l
  show tCons ta (tCons tb tNil) σ H (fun xs H1 => xs.length ≤ sizeLine ∧ ∀ p, H1 p = none → g2 K i j (.ref p) σ (upd H1 p (.tup xs)) E.nx)
  refine sndVF ha hb b F H σ G _ _ r h fun v p F' H' d xs r' x' pv f1 hq => ⟨by show 2 ≤ sizeLine; rw [sizeLine_eq]; omega, fun t ht => ?_⟩
  exact ⟨t, _, rfl, SqT.of upd_same, rfl, _, _, rfl, _, _, rfl, rfl, l.nx _ F' _ _ (((r'.alloc ht).setFz pv).setOw ((f1.alloc ht).fz)) x' (hq p)⟩
end
section
variable {X : Cx} {a b : Expr} {x y : Str} {i j : Nat} {ta tb : TE} {fa fb : AD} {ma mb : ED} {px py pt pos : Pos} {kt k2 : Nat} {pt2 : Pos}
theorem ds_parOO (hc : X.calm = true) (hN : X.N.Nodup) (hi : X.N[i]? = some x) (hj : X.N[j]? = some y) (hij : i ≠ j)
    (hx : X.env.scope.names.lookup x = some .local) (hy : X.env.scope.names.lookup y = some .local) (ha : DF X a fa) (hb : DF X b fb)
    (hw : swappedStores [.Tuple [.Name x px, .Name y py] kt pt] (.Tuple [a, b] k2 pt2) X.env = pure (some [x, y]) := by rfl)
    (hs : swapsWithSole [.Tuple [.Name x px, .Name y py] kt pt] (.Tuple [a, b] k2 pt2) pos.line X.env = pure false := by rfl)
    (h1 : starEach [a, b] X.env = (false, eval a X.env) :: starEach [b] X.env := by rfl) (h2 : starEach [b] X.env = (false, eval b X.env) :: starEach [] X.env := by rfl) :
    DS X (.Assign [.Tuple [.Name x px, .Name y py] kt pt] (.Tuple [a, b] k2 pt2) pos) (mParOO i j fa fb) := ⟨_, ps_par hc hN hi hj hij hx hy (pa_cons ha.pe (pa_cons hb.pe pa_nil h2) h1) hw hs, snds_parOO ha.sn hb.sn⟩
theorem ds_parO1 (hc : X.calm = true) (hN : X.N.Nodup) (hi : X.N[i]? = some x) (hj : X.N[j]? = some y) (hij : i ≠ j)
    (hx : X.env.scope.names.lookup x = some .local) (hy : X.env.scope.names.lookup y = some .local) (ha : DF X a fa) (hb : DE X b mb)
    (hw : swappedStores [.Tuple [.Name x px, .Name y py] kt pt] (.Tuple [a, b] k2 pt2) X.env = pure (some [x, y]) := by rfl)
    (hs : swapsWithSole [.Tuple [.Name x px, .Name y py] kt pt] (.Tuple [a, b] k2 pt2) pos.line X.env = pure false := by rfl)
    (h1 : starEach [a, b] X.env = (false, eval a X.env) :: starEach [b] X.env := by rfl) (h2 : starEach [b] X.env = (false, eval b X.env) :: starEach [] X.env := by rfl) :
    DS X (.Assign [.Tuple [.Name x px, .Name y py] kt pt] (.Tuple [a, b] k2 pt2) pos) (mParO1 i j fa mb) := ⟨_, ps_par hc hN hi hj hij hx hy (pa_cons ha.pe (pa_cons hb.pe pa_nil h2) h1) hw hs, snds_parO1 ha.sn hb.sn⟩
theorem ps_asg2 (hc : X.calm = true) (h : PA X [a, b] (tCons ta (tCons tb tNil))) (g1 : PG X (.Name x px) (gName i)) (g2' : PG X (.Name y py) (gName j))
    (hs : swapsWithSole [.Tuple [.Name x px, .Name y py] kt pt] (.Tuple [a, b] k2 pt2) pos.line X.env = pure false := by rfl) (hw : swappedStores [.Tuple [.Name x px, .Name y py] kt pt] (.Tuple [a, b] k2 pt2) X.env = pure none := by rfl)
    (h3 : (assignEach [.Tuple [.Name x px, .Name y py] kt pt] X.env).map (·.2) = [assign (.Tuple [.Name x px, .Name y py] kt pt) X.env] := by rfl) :
    PS X (.Assign [.Tuple [.Name x px, .Name y py] kt pt] (.Tuple [a, b] k2 pt2) pos) (tAsg (tTup (tCons ta (tCons tb tNil))) (g2 X.K i j)) := ps_asg (pe_tup h) (pg_tup hc (pgs_cons g1 (pgs_cons g2' pgs_nil))) hs hw h3
theorem ds_asgOO (hc : X.calm = true) (g1 : PG X (.Name x px) (gName i)) (g2' : PG X (.Name y py) (gName j)) (ha : DF X a fa) (hb : DF X b fb)
    (h1 : starEach [a, b] X.env = (false, eval a X.env) :: starEach [b] X.env := by rfl) (h2 : starEach [b] X.env = (false, eval b X.env) :: starEach [] X.env := by rfl)
    (hs : swapsWithSole [.Tuple [.Name x px, .Name y py] kt pt] (.Tuple [a, b] k2 pt2) pos.line X.env = pure false := by rfl) (hw : swappedStores [.Tuple [.Name x px, .Name y py] kt pt] (.Tuple [a, b] k2 pt2) X.env = pure none := by rfl)
    (h3 : (assignEach [.Tuple [.Name x px, .Name y py] kt pt] X.env).map (·.2) = [assign (.Tuple [.Name x px, .Name y py] kt pt) X.env] := by rfl) :
    DS X (.Assign [.Tuple [.Name x px, .Name y py] kt pt] (.Tuple [a, b] k2 pt2) pos) (mParOO i j fa fb) := ⟨_, ps_asg2 hc (pa_cons ha.pe (pa_cons hb.pe pa_nil h2) h1) g1 g2' hs hw h3, snds_asgOO ha.sn hb.sn⟩
theorem ds_asgO1 (hc : X.calm = true) (g1 : PG X (.Name x px) (gName i)) (g2' : PG X (.Name y py) (gName j)) (ha : DF X a fa) (hb : DE X b mb)
    (h1 : starEach [a, b] X.env = (false, eval a X.env) :: starEach [b] X.env := by rfl) (h2 : starEach [b] X.env = (false, eval b X.env) :: starEach [] X.env := by rfl)
    (hs : swapsWithSole [.Tuple [.Name x px, .Name y py] kt pt] (.Tuple [a, b] k2 pt2) pos.line X.env = pure false := by rfl) (hw : swappedStores [.Tuple [.Name x px, .Name y py] kt pt] (.Tuple [a, b] k2 pt2) X.env = pure none := by rfl)
    (h3 : (assignEach [.Tuple [.Name x px, .Name y py] kt pt] X.env).map (·.2) = [assign (.Tuple [.Name x px, .Name y py] kt pt) X.env] := by rfl) :
    DS X (.Assign [.Tuple [.Name x px, .Name y py] kt pt] (.Tuple [a, b] k2 pt2) pos) (mParO1 i j fa mb) := ⟨_, ps_asg2 hc (pa_cons ha.pe (pa_cons hb.pe pa_nil h2) h1) g1 g2' hs hw h3, snds_asgO1 ha.sn hb.sn⟩
theorem ds_asgO (hc : X.calm = true) (g1 : PG X (.Name x px) (gName i)) (g2' : PG X (.Name y py) (gName j)) (ha : DE X a ma) (hb : DF X b fb)
    (h1 : starEach [a, b] X.env = (false, eval a X.env) :: starEach [b] X.env := by rfl) (h2 : starEach [b] X.env = (false, eval b X.env) :: starEach [] X.env := by rfl)
    (hs : swapsWithSole [.Tuple [.Name x px, .Name y py] kt pt] (.Tuple [a, b] k2 pt2) pos.line X.env = pure false := by rfl) (hw : swappedStores [.Tuple [.Name x px, .Name y py] kt pt] (.Tuple [a, b] k2 pt2) X.env = pure none := by rfl)
    (h3 : (assignEach [.Tuple [.Name x px, .Name y py] kt pt] X.env).map (·.2) = [assign (.Tuple [.Name x px, .Name y py] kt pt) X.env] := by rfl) :
    DS X (.Assign [.Tuple [.Name x px, .Name y py] kt pt] (.Tuple [a, b] k2 pt2) pos) (mParO i j ma fb) := ⟨_, ps_asg2 hc (pa_cons ha.pe (pa_cons hb.pe pa_nil h2) h1) g1 g2' hs hw h3, snds_asgO ha.sn hb.sn⟩
theorem dg_tup {es : List Expr} {k n : Nat} {gs : TGs} {ms : GDs} {pos : Pos} (hc : X.calm = true) (h : DGs X es gs ms) (hn : (assignEach es X.env).length = n := by rfl) (hst : (assignEach es X.env).findIdx? (·.1) = none := by rfl) : DG X (.Tuple es k pos) (gTup X.K n gs) (gTupD n ms) := ⟨pg_tup hc h.pg hn hst, sndg_tup h.sn⟩
theorem dgs_nil : DGs X [] gNil gNilD := ⟨pgs_nil, sndgs_nil⟩
theorem dgs_cons {e : Expr} {es : List Expr} {g : TG} {m : GD} {gs : TGs} {ms : GDs} (h1 : DG X e g m) (h2 : DGs X es gs ms) (hs : (assignEach (e :: es) X.env).map (·.2) = assign e X.env :: (assignEach es X.env).map (·.2) := by rfl) : DGs X (e :: es) (gCons g gs) (gConsD m ms) := ⟨pgs_cons h1.pg h2.pg hs, sndgs_cons h1.sn h2.sn⟩
theorem di_range3 {tg : Expr} {p pos : Pos}  {n : AD} {c : Expr} (hm : X.mg "range" = none) (h : DA X [a, b, c] n) (hg : Gl X "range" := by rfl) (hs : starEach [a, b, c] X.env = (false, eval a X.env) :: starEach [b, c] X.env := by rfl) (hpl : (backTo pos (starEach [b, c] X.env)).any (fun x => x.fst) = false := by rfl) : DI X tg (.Call (.Name "range" p) [a, b, c] [] pos) (mRange3 n) := ⟨_, pi_range3 hg hm h.pe hs hpl, sndi_range3 h.sn⟩
end
/-! ### the text's defs -/
structure Bi (mg : Str → Option Value) : Prop where
  len : mg "len" = none
  range : mg "range" = none
  abs : mg "abs" = none
  int : mg "int" = none
  tuple : mg "tuple" = none
  list : mg "list" = none
  sum : mg "sum" = none
  any : mg "any" = none
  all : mg "all" = none
  isinstance : mg "isinstance" = none
  bool : mg "bool" = none
  str : mg "str" = none
end DL
set_option Elab.async false
set_option linter.all false
set_option autoImplicit false
set_option maxRecDepth 100000
namespace L2
open PySem PySem.Spec PyProof.Rows
/-- a, b, c = x, y, z with plain local names -/
def tPar3 (i j k : Nat) (ta : TA) : TS := fun D σ H => ta σ H fun vs H1 => ∃ v w u, vs = [v, w, u] ∧ D.nx (((σ.set i (some v)).set j (some w)).set k (some u)) H1
theorem ps_par3 {X : Cx} {pos : Pos} {i j k : Nat} {x y z : Str} {a b c : Expr} {ta : TA} {px py pz pt : Pos} {kt k2 pt2} (hc : X.calm = true) (hN : X.N.Nodup) (hi : X.N[i]? = some x) (hj : X.N[j]? = some y) (hk : X.N[k]? = some z) (hij : i ≠ j) (hik : i ≠ k) (hjk : j ≠ k)
    (hx : X.env.scope.names.lookup x = some .local) (hy : X.env.scope.names.lookup y = some .local) (hz : X.env.scope.names.lookup z = some .local) (ha : PA X [a, b, c] ta)
    (hw : swappedStores [.Tuple [.Name x px, .Name y py, .Name z pz] kt pt] (.Tuple [a, b, c] k2 pt2) X.env = pure (some [x, y, z]))
    (hs : swapsWithSole [.Tuple [.Name x px, .Name y py, .Name z pz] kt pt] (.Tuple [a, b, c] k2 pt2) pos.line X.env = pure false := by rfl) :
    PS X (.Assign [.Tuple [.Name x px, .Name y py, .Name z pz] kt pt] (.Tuple [a, b, c] k2 pt2) pos) (tPar3 i j k ta) := by
  refine ⟨fun pins s σ H D I h => ?_⟩
  rw [exec_Assign_arm]
  refine wpAny_bind (wpAny_standAt ?_)
  rw [hs]
  refine wpAny_bind (wpAny_pure ?_)
  rw [if_neg (by decide)]
  refine wpAny_bind (Tuple_ (thn (ha.run _ pins s σ H _ I h) fun us s1 ⟨vs, H1, I1, r1, q1⟩ => ?_))
  obtain ⟨v, w, u, e1, q1⟩ := q1
  subst e1
  obtain ⟨u1, u2, u3, rfl, rv, rw', ru⟩ : ∃ u1 u2 u3, us = [u1, u2, u3] ∧ RelV v u1 ∧ RelV w u2 ∧ RelV u u3 := by
    cases r1 with
    | cons p q =>
      cases q with
      | cons p' q' =>
        cases q' with
        | cons p'' q'' =>
          cases q''
          exact ⟨_, _, _, rfl, p, p', p''⟩
  refine wpAny_newObj_type ?_ (by show 3 ≤ sizeLine; decide)
  have I2 : Inv X pins σ H1 { s1 with heap := s1.heap.push { cls := .type "tuple", data := .seq [u1, u2, u3].toArray } } := I1.kept (t' := s1.toks) fun b o e => Heap.get?_push_of_some _ e
  rw [hw]
  refine wpAny_bind (wpAny_pure ?_)
  show wpAny (model X.prog X.w) X.A (do rule "assign.swapped-stores"; let items ← unpackItems (.ref s1.heap.objs.size) 3 none; assignInOrder [fun v => bindName X.env z v, fun v => bindName X.env y v, fun v => bindName X.env x v] items.reverse; pure Flow.next) _ _ _
  refine wpAny_bind (wpAny_rule (wpAny_bind (unpackItems_tuple (items := #[u1, u2, u3]) (I.ok.hd hc) (IsTup.new s1.heap _) fun h' hx' => ?_)))
  have I3 := I2.kept (h' := h') (t' := s1.toks) fun b o e => hx' b o (Nat.ne_of_lt (Heap.lt_size e)) e
  show wpAny _ _ (assignInOrder [fun v => bindName X.env z v, fun v => bindName X.env y v, fun v => bindName X.env x v] [u3, u2, u1] >>= fun _ => pure Flow.next) _ _ _
  refine wpAny_bind (assignInOrder_cons (wpAny_bindName (store_ok I3 hN hk (.inl hz) ru (fun s2 I4 => ?_) (.inr hz))))
  refine assignInOrder_cons (wpAny_bindName (store_ok I4 hN hj (.inl hy) rw' (fun s3 I5 => ?_) (.inr hy)))
  refine assignInOrder_cons (wpAny_bindName (store_ok I5 hN hi (.inl hx) rv (fun s4 I6 => assignInOrder_nil (wpAny_pure ?_)) (.inr hx)))
  rw [List.set_comm _ _ (Ne.symm hjk), List.set_comm _ _ (Ne.symm hik), List.set_comm _ _ (Ne.symm hij)] at I6
  exact ⟨_, H1, I6, q1⟩
end L2
namespace DL
open PySem PySem.Spec
open PyProof.Rows hiding St
open L2
section
variable {K : PySem.W.Frag}
/-! ### a list of one's own (or any) == a value -/
def sqD (l : Bool) (xs : List D) : D := if l = true then .lst xs else .tup xs
def mEqQ (mq : QD) (mb : ED) : ED := fun G Q => mq G fun l _ xs => mb G fun e => (sqD l xs).pl 60 = true ∧ e.pl 60 = true ∧ Q (.bl (D.eqv (sqD l xs) e))
def mNeQ (mq : QD) (mb : ED) : ED := fun G Q => mq G fun l _ xs => mb G fun e => (sqD l xs).pl 60 = true ∧ e.pl 60 = true ∧ Q (.bl (!D.eqv (sqD l xs) e))
theorem sq_dp {b : Bk} {F H : Hp} {p : Addr} {vs : List V} {l : Bool} {xs : List D} (r : RB b F H) (h1 : if l = true then SqL K H p vs else SqT K H p vs) (h2 : RpL K b.s F vs xs) (z : (sqD l xs).pl 60 = true) : Dp K H (.ref p) (sqD l xs).py := by
  have z2 : ∀ d ∈ xs, D.pl 59 d = true := by
    cases l <;> simpa [sqD, D.pl] using z
  cases l with
  | true => exact .lst h1 (RpL.dp r.fz 59 xs vs z2 h2)
  | false => exact .tup h1 (RpL.dp r.fz 59 xs vs z2 h2)
theorem snd_eqQ {tq tb : TE} {mq : QD} {mb : ED} (hq : SndQ K tq mq) (hb : Snd K tb mb) : Snd K (tOp (rEqD K) tq tb) (mEqQ mq mb) := by
  intro b F H σ G Qd Q rg h k
  refine hq b F H σ G _ _ rg h fun v F1 H1 l o xs r1 x1 s1 q1 => ?_
  refine hb b F1 H1 σ G _ _ r1 q1 fun w F2 H2 e r2 x2 p2 q2 => ?_
  obtain ⟨z1, z2, q2⟩ := q2
  obtain ⟨p, vs, rfl, h1, h2⟩ := s1.seq r2 x2
  exact ⟨_, e.py, sq_dp r2.toRB h1 h2 z1, Rp.dp r2.fz 60 e w z2 p2, pl_shaped z1, pl_shaped z2, k _ F2 H2 _ r2 (x1.trans x2) (.bl _) q2⟩
theorem snd_neQ {tq tb : TE} {mq : QD} {mb : ED} (hq : SndQ K tq mq) (hb : Snd K tb mb) : Snd K (tOp (rNeD K) tq tb) (mNeQ mq mb) := by
  intro b F H σ G Qd Q rg h k
  refine hq b F H σ G _ _ rg h fun v F1 H1 l o xs r1 x1 s1 q1 => ?_
  refine hb b F1 H1 σ G _ _ r1 q1 fun w F2 H2 e r2 x2 p2 q2 => ?_
  obtain ⟨z1, z2, q2⟩ := q2
  obtain ⟨p, vs, rfl, h1, h2⟩ := s1.seq r2 x2
  exact ⟨_, e.py, sq_dp r2.toRB h1 h2 z1, Rp.dp r2.fz 60 e w z2 p2, pl_shaped z1, pl_shaped z2, k _ F2 H2 _ r2 (x1.trans x2) (.bl _) q2⟩
end
section
variable {X : Cx} {a b : Expr} {mq : QD} {mb : ED} {pos : Pos}
theorem de_eqQ (hu : X.A.units + 64 < cLine) (ha : DQ X a mq) (hb : DE X b mb) : DE X (.Compare a [.Eq] [b] pos) (mEqQ mq mb) := ⟨_, pe_cmpR (op_eqD hu) ha.pe hb.pe (nomark b), snd_eqQ ha.sn hb.sn⟩
theorem de_neQ (hu : X.A.units + 64 < cLine) (ha : DQ X a mq) (hb : DE X b mb) : DE X (.Compare a [.NotEq] [b] pos) (mNeQ mq mb) := ⟨_, pe_cmpR (op_neD hu) ha.pe hb.pe (nomark b), snd_neQ ha.sn hb.sn⟩
theorem dt_eqQ (hu : X.A.units + 64 < cLine) (ha : DQ X a mq) (hb : DE X b mb) : DT X (.Compare a [.Eq] [b] pos) (mTst (mEqQ mq mb)) := ⟨_, pt_cmpR (op_eqD hu) ha.pe hb.pe (nomark b), sndt_test (snd_eqQ ha.sn hb.sn)⟩
theorem dt_neQ (hu : X.A.units + 64 < cLine) (ha : DQ X a mq) (hb : DE X b mb) : DT X (.Compare a [.NotEq] [b] pos) (mTst (mNeQ mq mb)) := ⟨_, pt_cmpR (op_neD hu) ha.pe hb.pe (nomark b), sndt_test (snd_neQ ha.sn hb.sn)⟩
end
def mPar3 (i j k : Nat) (ma : AD) : SD := fun De G => ma G fun ds => match ds with
  | [d, e, f] => De.nx (((G.set i (.fz d)).set j (.fz e)).set k (.fz f))
  | _ => False
theorem snds_par3 {K : PySem.W.Frag} {i j k : Nat} {ta : TA} {ma : AD} (h : SndA K ta ma) : SndS K (tPar3 i j k ta) (mPar3 i j k ma) := by
  intro b F H σ G De E r hm l
  refine h b F H σ G _ _ r hm fun vs F1 H1 ds r1 x1 p1 q1 => ?_
  split at q1
  · obtain ⟨v, w, u, rfl, p2, p3, p4⟩ := p1.three
    exact ⟨v, w, u, rfl, l.nx _ F1 H1 _ (((r1.setFz p2).setFz p3).setFz p4) x1 q1⟩
  · exact q1.elim
theorem ds_par3 {X : Cx} {pos : Pos} {i j k : Nat} {x y z : Str} {a b c : Expr} {n : AD} {px py pz pt : Pos} {kt k2 pt2} (hc : X.calm = true) (hN : X.N.Nodup) (hi : X.N[i]? = some x) (hj : X.N[j]? = some y) (hk : X.N[k]? = some z) (hij : i ≠ j) (hik : i ≠ k) (hjk : j ≠ k)
    (hx : X.env.scope.names.lookup x = some .local) (hy : X.env.scope.names.lookup y = some .local) (hz : X.env.scope.names.lookup z = some .local) (ha : DA X [a, b, c] n)
    (hw : swappedStores [.Tuple [.Name x px, .Name y py, .Name z pz] kt pt] (.Tuple [a, b, c] k2 pt2) X.env = pure (some [x, y, z]) := by rfl)
    (hs : swapsWithSole [.Tuple [.Name x px, .Name y py, .Name z pz] kt pt] (.Tuple [a, b, c] k2 pt2) pos.line X.env = pure false := by rfl) :
    DS X (.Assign [.Tuple [.Name x px, .Name y py, .Name z pz] kt pt] (.Tuple [a, b, c] k2 pt2) pos) (mPar3 i j k n) := ⟨_, ps_par3 hc hN hi hj hk hij hik hjk hx hy hz ha.pe hw hs, snds_par3 ha.sn⟩
end DL
set_option Elab.async false
set_option linter.all false
set_option autoImplicit false
set_option maxRecDepth 100000
namespace DL
open PySem PySem.Spec
open PyProof.Rows hiding St
open L2
def top (i : Nat) : Stmt := PySem.Challenge.pw_promisewright_k18_whole_worst_shares_by.main.body.getD i (.Pass ⟨0, 0, 0, 0⟩)
def Has (K : PySem.W.Frag) (mg : Str → Option Value) (x : Str) (i : Nat) : Prop := ∃ f fd, FunD K x x (defArgs (top i)) (defBody (top i)) (defScope (top i)) [] [] f fd ∧ mg x = some (.ref f)
end DL
set_option Elab.async false
set_option linter.all false
set_option autoImplicit false
set_option maxRecDepth 100000
set_option maxHeartbeats 2000000
namespace DL
open PySem PySem.Spec
open PyProof.Rows hiding St
open L2
section
variable {P : Program} {w : World} {K : PySem.W.Frag} {mg : Str → Option Value} {base : Heap}
abbrev N_divisor : List Str := ["one", "other"]
theorem S_divisor : FnScope N_divisor ["one", "other"] (defScope (top 1)) := ⟨rfl, rfl, rfl, by decide +kernel, rfl, by decide +kernel, by decide +kernel⟩
def b_divisor  : SD := (mSeq (mPar 0 1 (mCons (mCB cAbs (mCons (mVar 0) mNil)) (mCons (mCB cAbs (mCons (mVar 1) mNil)) mNil))) (mSeq (mWhile (mTst (mOp oNe (mVar 1) (mC (.int 0)))) (mPar 0 1 (mCons (mVar 1) (mCons (mOp (oI (fun _ j => 0 < j) fun i j => .int (i % j)) (mVar 0) (mVar 1)) mNil)))) (mRet (mVar 0))))
theorem k_divisor {k : Nat} {fs  : FS} (h : Has K mg "divisor" 1) (Z : Bi mg)   (len : ∀ ds Q, fs ds Q → ds.length = 2)
    (pure : ∀ ds Q, fs ds Q → b_divisor  { nx := fun _ => Q .non, rt := Q } (startD N_divisor ds)) : CalD P w K mg base "divisor" (k + 1) fs := by
  obtain ⟨f, fd, F, hm⟩ := h
  exact ⟨f, fd, ["one", "other"], fnD (m := b_divisor ) F S_divisor len (fun cdv A outer s H E hr => (dss_cons (ds_par (i := 0) (j := 1) rfl S_divisor.nd rfl rfl (by decide) rfl rfl (da_cons (de_abs Z.abs (da_cons (de_var (pv 0)) da_nil)) (da_cons (de_abs Z.abs (da_cons (de_var (pv 1)) da_nil)) da_nil))) (dss_cons (ds_while PassesOwn.never (dt_ne hr.units (de_var (pv 1)) de_int) (dss_one (ds_par (i := 0) (j := 1) rfl S_divisor.nd rfl rfl (by decide) rfl rfl (da_cons (de_var (pv 1)) (da_cons (de_mod (de_var (pv 0)) (de_var (pv 1))) da_nil))))) (dss_one (ds_ret (de_var (pv 0))))))) pure, hm, F.kp, F.bindsN fun _ _ _ _ _ _ us hl => match us, hl with | [_, _], _ => rfl⟩
abbrev N_part : List Str := ["above", "below", "common"]
theorem S_part : FnScope N_part ["above", "below"] (defScope (top 2)) := ⟨rfl, rfl, rfl, by decide +kernel, rfl, by decide +kernel, by decide +kernel⟩
def b_part (c_divisor : FS) : SD := (mSeq (mIfS (mTst (mOp (oI0 fun i j => .bl (decide (i < j))) (mVar 1) (mC (.int 0)))) (mPar 0 1 (mCons (mOp (oI0 fun i j => .int (i - j)) (mC (.int 0)) (mVar 0)) (mCons (mOp (oI0 fun i j => .int (i - j)) (mC (.int 0)) (mVar 1)) mNil))) mNext) (mSeq (mSet 2 (mCall c_divisor (mCons (mVar 0) (mCons (mVar 1) mNil)))) (mRet (mTup (mCons (mOp (oI CDivW fun i j => .int (i / j)) (mVar 0) (mVar 2)) (mCons (mOp (oI CDivW fun i j => .int (i / j)) (mVar 1) (mVar 2)) mNil))))))
theorem k_part {k : Nat} {fs c_divisor : FS} (h : Has K mg "part" 2) (Z : Bi mg) (C_divisor : CalD P w K mg base "divisor" k c_divisor)  (len : ∀ ds Q, fs ds Q → ds.length = 2)
    (pure : ∀ ds Q, fs ds Q → b_part c_divisor { nx := fun _ => Q .non, rt := Q } (startD N_part ds)) : CalD P w K mg base "part" (k + 1) fs := by
  obtain ⟨f, fd, F, hm⟩ := h
  exact ⟨f, fd, ["above", "below"], fnD (m := b_part c_divisor) F S_part len (fun cdv A outer s H E hr => (dss_cons (ds_if (dt_lt (de_var (pv 1)) de_int) (dss_one (ds_par (i := 0) (j := 1) rfl S_part.nd rfl rfl (by decide) rfl rfl (da_cons (de_sub de_int (de_var (pv 0))) (da_cons (de_sub de_int (de_var (pv 1))) da_nil)))) dss_nil) (dss_cons (ds_set (i := 2) S_part.nd rfl (by first | exact Or.inl rfl | exact Or.inr rfl) (de_call C_divisor hr (da_cons (de_var (pv 0)) (da_cons (de_var (pv 1)) da_nil)))) (dss_one (ds_ret (de_tup (da_cons (de_fdiv (de_var (pv 0)) (de_var (pv 2))) (da_cons (de_fdiv (de_var (pv 1)) (de_var (pv 2))) da_nil)))))))) pure, hm, F.kp, F.bindsN fun _ _ _ _ _ _ us hl => match us, hl with | [_, _], _ => rfl⟩
abbrev N_is_part : List Str := ["value", "number"]
theorem S_is_part : FnScope N_is_part ["value"] (defScope (top 3)) := ⟨rfl, rfl, rfl, by decide +kernel, rfl, by decide +kernel, by decide +kernel⟩
def b_is_part (c_divisor : FS) : SD := (mSeq (mIfS (mOr (mNot (mTst (mIsi "tuple" (mVar 0)))) (mTst (mOp oNe (mLen (mSq (mVar 0))) (mC (.int 2))))) (mRet (mC (.bl false))) mNext) (mSeq (mIfS (mNot (mTst (mAll (mSq (mFz (mLc [1] (mSeqI (mSq (mVar 0))) (gNm 1) mYes (mAndV (mIsi "int" (mVar 1)) (mNotV (mIsi "bool" (mVar 1)))))))))) (mRet (mC (.bl false))) mNext) (mRet (mAndV (mOp (oI0 fun i j => .bl (decide (j ≤ i))) (mIx (mSq (mVar 0)) (mC (.int 1))) (mC (.int 1))) (mOp oEq (mCall c_divisor (mCons (mIx (mSq (mVar 0)) (mC (.int 0))) (mCons (mIx (mSq (mVar 0)) (mC (.int 1))) mNil))) (mC (.int 1)))))))
theorem k_is_part {k : Nat} {fs c_divisor : FS} (h : Has K mg "is_part" 3) (Z : Bi mg) (C_divisor : CalD P w K mg base "divisor" k c_divisor)  (len : ∀ ds Q, fs ds Q → ds.length = 1)
    (pure : ∀ ds Q, fs ds Q → b_is_part c_divisor { nx := fun _ => Q .non, rt := Q } (startD N_is_part ds)) : CalD P w K mg base "is_part" (k + 1) fs := by
  obtain ⟨f, fd, F, hm⟩ := h
  exact ⟨f, fd, ["value"], fnD (m := b_is_part c_divisor) F S_is_part len (fun cdv A outer s H E hr => (dss_cons (ds_if (dt_w (dw_or (dt_not (dt_val (de_isi (by decide) Z.isinstance Z.tuple (by decide +kernel) (de_var (pv 0))))) (dw_or1 (dt_ne hr.units (de_len Z.len (dq_of (de_var (pv 0)))) de_int)))) (dss_one (ds_ret de_bl)) dss_nil) (dss_cons (ds_if (dt_not (dt_val (de_all rfl Z.all (dq_of (de_fz (df_lc (own := [("number", 1)]) rfl S_is_part.nd (di_seq (dq_of (de_var (pv 0)))) (blkOk_by (by kernel_rfl)) (tgok_name (by decide)) (fun _ _ _ _ _ => (dg_name (pg_name (i := 1) S_is_part.nd rfl (by first | exact Or.inl rfl | exact Or.inr rfl)))) (fun _ _ _ _ _ => dts_nil) (fun _ _ _ _ _ => (de_and (de_isi (by decide) Z.isinstance Z.int (by decide +kernel) (de_var (pv 1))) (de_one (de_not (de_isi (by decide) Z.isinstance Z.bool (by decide +kernel) (de_var (pv 1))))))))))))) (dss_one (ds_ret de_bl)) dss_nil) (dss_one (ds_ret (de_and (de_ge (de_ix (dq_of (de_var (pv 0))) de_int) de_int) (de_one (de_eq hr.units (de_call C_divisor hr (da_cons (de_ix (dq_of (de_var (pv 0))) de_int) (da_cons (de_ix (dq_of (de_var (pv 0))) de_int) da_nil))) de_int)))))))) pure, hm, F.kp, F.bindsN fun _ _ _ _ _ _ us hl => match us, hl with | [_], _ => rfl⟩
abbrev N_are_parts : List Str := ["value", "many", "one"]
theorem S_are_parts : FnScope N_are_parts ["value", "many"] (defScope (top 4)) := ⟨rfl, rfl, rfl, by decide +kernel, rfl, by decide +kernel, by decide +kernel⟩
def b_are_parts (c_is_part : FS) : SD := (mRet (mAndV (mIsi "tuple" (mVar 0)) (mAndV (mOp oEq (mLen (mSq (mVar 0))) (mVar 1)) (mAll (mSq (mFz (mLc [2] (mSeqI (mSq (mVar 0))) (gNm 2) mYes (mCall c_is_part (mCons (mVar 2) mNil)))))))))
theorem k_are_parts {k : Nat} {fs c_is_part : FS} (h : Has K mg "are_parts" 4) (Z : Bi mg) (C_is_part : CalD P w K mg base "is_part" k c_is_part)  (len : ∀ ds Q, fs ds Q → ds.length = 2)
    (pure : ∀ ds Q, fs ds Q → b_are_parts c_is_part { nx := fun _ => Q .non, rt := Q } (startD N_are_parts ds)) : CalD P w K mg base "are_parts" (k + 1) fs := by
  obtain ⟨f, fd, F, hm⟩ := h
  exact ⟨f, fd, ["value", "many"], fnD (m := b_are_parts c_is_part) F S_are_parts len (fun cdv A outer s H E hr => (dss_one (ds_ret (de_and (de_isi (by decide) Z.isinstance Z.tuple (by decide +kernel) (de_var (pv 0))) (de_and (de_eq hr.units (de_len Z.len (dq_of (de_var (pv 0)))) (de_var (pv 1))) (de_one (de_all rfl Z.all (dq_of (de_fz (df_lc (own := [("one", 2)]) rfl S_are_parts.nd (di_seq (dq_of (de_var (pv 0)))) (blkOk_by (by kernel_rfl)) (tgok_name (by decide)) (fun _ _ _ _ _ => (dg_name (pg_name (i := 2) S_are_parts.nd rfl (by first | exact Or.inl rfl | exact Or.inr rfl)))) (fun _ _ _ _ _ => dts_nil) (fun _ _ _ _ _ => (de_call C_is_part hr (da_cons (de_var (pv 2)) da_nil))))))))))))) pure, hm, F.kp, F.bindsN fun _ _ _ _ _ _ us hl => match us, hl with | [_, _], _ => rfl⟩
abbrev N_plus : List Str := ["one", "other"]
theorem S_plus : FnScope N_plus ["one", "other"] (defScope (top 5)) := ⟨rfl, rfl, rfl, by decide +kernel, rfl, by decide +kernel, by decide +kernel⟩
def b_plus (c_part : FS) : SD := (mRet (mCall c_part (mCons (mOp (oI0 fun i j => .int (i + j)) (mOp (oI CMulW fun i j => .int (i * j)) (mIx (mSq (mVar 0)) (mC (.int 0))) (mIx (mSq (mVar 1)) (mC (.int 1)))) (mOp (oI CMulW fun i j => .int (i * j)) (mIx (mSq (mVar 1)) (mC (.int 0))) (mIx (mSq (mVar 0)) (mC (.int 1))))) (mCons (mOp (oI CMulW fun i j => .int (i * j)) (mIx (mSq (mVar 0)) (mC (.int 1))) (mIx (mSq (mVar 1)) (mC (.int 1)))) mNil))))
theorem k_plus {k : Nat} {fs c_part : FS} (h : Has K mg "plus" 5) (Z : Bi mg) (C_part : CalD P w K mg base "part" k c_part)  (len : ∀ ds Q, fs ds Q → ds.length = 2)
    (pure : ∀ ds Q, fs ds Q → b_plus c_part { nx := fun _ => Q .non, rt := Q } (startD N_plus ds)) : CalD P w K mg base "plus" (k + 1) fs := by
  obtain ⟨f, fd, F, hm⟩ := h
  exact ⟨f, fd, ["one", "other"], fnD (m := b_plus c_part) F S_plus len (fun cdv A outer s H E hr => (dss_one (ds_ret (de_call C_part hr (da_cons (de_add (de_mul (de_ix (dq_of (de_var (pv 0))) de_int) (de_ix (dq_of (de_var (pv 1))) de_int)) (de_mul (de_ix (dq_of (de_var (pv 1))) de_int) (de_ix (dq_of (de_var (pv 0))) de_int))) (da_cons (de_mul (de_ix (dq_of (de_var (pv 0))) de_int) (de_ix (dq_of (de_var (pv 1))) de_int)) da_nil)))))) pure, hm, F.kp, F.bindsN fun _ _ _ _ _ _ us hl => match us, hl with | [_, _], _ => rfl⟩
abbrev N_minus : List Str := ["one", "other"]
theorem S_minus : FnScope N_minus ["one", "other"] (defScope (top 6)) := ⟨rfl, rfl, rfl, by decide +kernel, rfl, by decide +kernel, by decide +kernel⟩
def b_minus (c_part : FS) : SD := (mRet (mCall c_part (mCons (mOp (oI0 fun i j => .int (i - j)) (mOp (oI CMulW fun i j => .int (i * j)) (mIx (mSq (mVar 0)) (mC (.int 0))) (mIx (mSq (mVar 1)) (mC (.int 1)))) (mOp (oI CMulW fun i j => .int (i * j)) (mIx (mSq (mVar 1)) (mC (.int 0))) (mIx (mSq (mVar 0)) (mC (.int 1))))) (mCons (mOp (oI CMulW fun i j => .int (i * j)) (mIx (mSq (mVar 0)) (mC (.int 1))) (mIx (mSq (mVar 1)) (mC (.int 1)))) mNil))))
theorem k_minus {k : Nat} {fs c_part : FS} (h : Has K mg "minus" 6) (Z : Bi mg) (C_part : CalD P w K mg base "part" k c_part)  (len : ∀ ds Q, fs ds Q → ds.length = 2)
    (pure : ∀ ds Q, fs ds Q → b_minus c_part { nx := fun _ => Q .non, rt := Q } (startD N_minus ds)) : CalD P w K mg base "minus" (k + 1) fs := by
  obtain ⟨f, fd, F, hm⟩ := h
  exact ⟨f, fd, ["one", "other"], fnD (m := b_minus c_part) F S_minus len (fun cdv A outer s H E hr => (dss_one (ds_ret (de_call C_part hr (da_cons (de_sub (de_mul (de_ix (dq_of (de_var (pv 0))) de_int) (de_ix (dq_of (de_var (pv 1))) de_int)) (de_mul (de_ix (dq_of (de_var (pv 1))) de_int) (de_ix (dq_of (de_var (pv 0))) de_int))) (da_cons (de_mul (de_ix (dq_of (de_var (pv 0))) de_int) (de_ix (dq_of (de_var (pv 1))) de_int)) da_nil)))))) pure, hm, F.kp, F.bindsN fun _ _ _ _ _ _ us hl => match us, hl with | [_, _], _ => rfl⟩
abbrev N_times : List Str := ["one", "other"]
theorem S_times : FnScope N_times ["one", "other"] (defScope (top 7)) := ⟨rfl, rfl, rfl, by decide +kernel, rfl, by decide +kernel, by decide +kernel⟩
def b_times (c_part : FS) : SD := (mRet (mCall c_part (mCons (mOp (oI CMulW fun i j => .int (i * j)) (mIx (mSq (mVar 0)) (mC (.int 0))) (mIx (mSq (mVar 1)) (mC (.int 0)))) (mCons (mOp (oI CMulW fun i j => .int (i * j)) (mIx (mSq (mVar 0)) (mC (.int 1))) (mIx (mSq (mVar 1)) (mC (.int 1)))) mNil))))
theorem k_times {k : Nat} {fs c_part : FS} (h : Has K mg "times" 7) (Z : Bi mg) (C_part : CalD P w K mg base "part" k c_part)  (len : ∀ ds Q, fs ds Q → ds.length = 2)
    (pure : ∀ ds Q, fs ds Q → b_times c_part { nx := fun _ => Q .non, rt := Q } (startD N_times ds)) : CalD P w K mg base "times" (k + 1) fs := by
  obtain ⟨f, fd, F, hm⟩ := h
  exact ⟨f, fd, ["one", "other"], fnD (m := b_times c_part) F S_times len (fun cdv A outer s H E hr => (dss_one (ds_ret (de_call C_part hr (da_cons (de_mul (de_ix (dq_of (de_var (pv 0))) de_int) (de_ix (dq_of (de_var (pv 1))) de_int)) (da_cons (de_mul (de_ix (dq_of (de_var (pv 0))) de_int) (de_ix (dq_of (de_var (pv 1))) de_int)) da_nil)))))) pure, hm, F.kp, F.bindsN fun _ _ _ _ _ _ us hl => match us, hl with | [_, _], _ => rfl⟩
abbrev N_over : List Str := ["one", "other"]
theorem S_over : FnScope N_over ["one", "other"] (defScope (top 8)) := ⟨rfl, rfl, rfl, by decide +kernel, rfl, by decide +kernel, by decide +kernel⟩
def b_over (c_part : FS) : SD := (mRet (mCall c_part (mCons (mOp (oI CMulW fun i j => .int (i * j)) (mIx (mSq (mVar 0)) (mC (.int 0))) (mIx (mSq (mVar 1)) (mC (.int 1)))) (mCons (mOp (oI CMulW fun i j => .int (i * j)) (mIx (mSq (mVar 0)) (mC (.int 1))) (mIx (mSq (mVar 1)) (mC (.int 0)))) mNil))))
theorem k_over {k : Nat} {fs c_part : FS} (h : Has K mg "over" 8) (Z : Bi mg) (C_part : CalD P w K mg base "part" k c_part)  (len : ∀ ds Q, fs ds Q → ds.length = 2)
    (pure : ∀ ds Q, fs ds Q → b_over c_part { nx := fun _ => Q .non, rt := Q } (startD N_over ds)) : CalD P w K mg base "over" (k + 1) fs := by
  obtain ⟨f, fd, F, hm⟩ := h
  exact ⟨f, fd, ["one", "other"], fnD (m := b_over c_part) F S_over len (fun cdv A outer s H E hr => (dss_one (ds_ret (de_call C_part hr (da_cons (de_mul (de_ix (dq_of (de_var (pv 0))) de_int) (de_ix (dq_of (de_var (pv 1))) de_int)) (da_cons (de_mul (de_ix (dq_of (de_var (pv 0))) de_int) (de_ix (dq_of (de_var (pv 1))) de_int)) da_nil)))))) pure, hm, F.kp, F.bindsN fun _ _ _ _ _ _ us hl => match us, hl with | [_, _], _ => rfl⟩
abbrev N_negative : List Str := ["one"]
theorem S_negative : FnScope N_negative ["one"] (defScope (top 9)) := ⟨rfl, rfl, rfl, by decide +kernel, rfl, by decide +kernel, by decide +kernel⟩
def b_negative  : SD := (mRet (mTup (mCons (mOp (oI0 fun i j => .int (i - j)) (mC (.int 0)) (mIx (mSq (mVar 0)) (mC (.int 0)))) (mCons (mIx (mSq (mVar 0)) (mC (.int 1))) mNil))))
theorem k_negative {k : Nat} {fs  : FS} (h : Has K mg "negative" 9) (Z : Bi mg)   (len : ∀ ds Q, fs ds Q → ds.length = 1)
    (pure : ∀ ds Q, fs ds Q → b_negative  { nx := fun _ => Q .non, rt := Q } (startD N_negative ds)) : CalD P w K mg base "negative" (k + 1) fs := by
  obtain ⟨f, fd, F, hm⟩ := h
  exact ⟨f, fd, ["one"], fnD (m := b_negative ) F S_negative len (fun cdv A outer s H E hr => (dss_one (ds_ret (de_tup (da_cons (de_sub de_int (de_ix (dq_of (de_var (pv 0))) de_int)) (da_cons (de_ix (dq_of (de_var (pv 0))) de_int) da_nil)))))) pure, hm, F.kp, F.bindsN fun _ _ _ _ _ _ us hl => match us, hl with | [_], _ => rfl⟩
abbrev N_is_less : List Str := ["one", "other"]
theorem S_is_less : FnScope N_is_less ["one", "other"] (defScope (top 10)) := ⟨rfl, rfl, rfl, by decide +kernel, rfl, by decide +kernel, by decide +kernel⟩
def b_is_less  : SD := (mRet (mOp (oI0 fun i j => .bl (decide (i < j))) (mOp (oI CMulW fun i j => .int (i * j)) (mIx (mSq (mVar 0)) (mC (.int 0))) (mIx (mSq (mVar 1)) (mC (.int 1)))) (mOp (oI CMulW fun i j => .int (i * j)) (mIx (mSq (mVar 1)) (mC (.int 0))) (mIx (mSq (mVar 0)) (mC (.int 1))))))
theorem k_is_less {k : Nat} {fs  : FS} (h : Has K mg "is_less" 10) (Z : Bi mg)   (len : ∀ ds Q, fs ds Q → ds.length = 2)
    (pure : ∀ ds Q, fs ds Q → b_is_less  { nx := fun _ => Q .non, rt := Q } (startD N_is_less ds)) : CalD P w K mg base "is_less" (k + 1) fs := by
  obtain ⟨f, fd, F, hm⟩ := h
  exact ⟨f, fd, ["one", "other"], fnD (m := b_is_less ) F S_is_less len (fun cdv A outer s H E hr => (dss_one (ds_ret (de_lt (de_mul (de_ix (dq_of (de_var (pv 0))) de_int) (de_ix (dq_of (de_var (pv 1))) de_int)) (de_mul (de_ix (dq_of (de_var (pv 1))) de_int) (de_ix (dq_of (de_var (pv 0))) de_int)))))) pure, hm, F.kp, F.bindsN fun _ _ _ _ _ _ us hl => match us, hl with | [_, _], _ => rfl⟩
abbrev N_least : List Str := ["row", "found", "one"]
theorem S_least : FnScope N_least ["row"] (defScope (top 11)) := ⟨rfl, rfl, rfl, by decide +kernel, rfl, by decide +kernel, by decide +kernel⟩
def b_least (c_is_less : FS) : SD := (mSeq (mSet 1 (mC .non)) (mSeq (mFor (mSeqI (mSq (mVar 0))) (gNm 2) (mSet 1 (mIf (mOr (mTst (mOp oIsN (mVar 1) (mC .non))) (mTst (mCall c_is_less (mCons (mVar 2) (mCons (mVar 1) mNil))))) (mVar 2) (mVar 1)))) (mRet (mVar 1))))
theorem k_least {k : Nat} {fs c_is_less : FS} (h : Has K mg "least" 11) (Z : Bi mg) (C_is_less : CalD P w K mg base "is_less" k c_is_less)  (len : ∀ ds Q, fs ds Q → ds.length = 1)
    (pure : ∀ ds Q, fs ds Q → b_least c_is_less { nx := fun _ => Q .non, rt := Q } (startD N_least ds)) : CalD P w K mg base "least" (k + 1) fs := by
  obtain ⟨f, fd, F, hm⟩ := h
  exact ⟨f, fd, ["row"], fnD (m := b_least c_is_less) F S_least len (fun cdv A outer s H E hr => (dss_cons (ds_set (i := 1) S_least.nd rfl (by first | exact Or.inl rfl | exact Or.inr rfl) de_non) (dss_cons (ds_for PassesOwn.never rfl (di_seq (dq_of (de_var (pv 0)))) (dg_name (pg_name (i := 2) S_least.nd rfl (by first | exact Or.inl rfl | exact Or.inr rfl))) (dss_one (ds_set (i := 1) S_least.nd rfl (by first | exact Or.inl rfl | exact Or.inr rfl) (de_if (dt_w (dw_or (dt_isN (de_var (pv 1)) de_non) (dw_or1 (dt_val (de_call C_is_less hr (da_cons (de_var (pv 2)) (da_cons (de_var (pv 1)) da_nil))))))) (de_var (pv 2)) (de_var (pv 1)))))) (dss_one (ds_ret (de_var (pv 1))))))) pure, hm, F.kp, F.bindsN fun _ _ _ _ _ _ us hl => match us, hl with | [_], _ => rfl⟩
abbrev N_total : List Str := ["row", "found", "one"]
theorem S_total : FnScope N_total ["row"] (defScope (top 12)) := ⟨rfl, rfl, rfl, by decide +kernel, rfl, by decide +kernel, by decide +kernel⟩
def b_total (c_plus : FS) : SD := (mSeq (mSet 1 (mTup (mCons (mC (.int 0)) (mCons (mC (.int 1)) mNil)))) (mSeq (mFor (mSeqI (mSq (mVar 0))) (gNm 2) (mSet 1 (mCall c_plus (mCons (mVar 1) (mCons (mVar 2) mNil))))) (mRet (mVar 1))))
theorem k_total {k : Nat} {fs c_plus : FS} (h : Has K mg "total" 12) (Z : Bi mg) (C_plus : CalD P w K mg base "plus" k c_plus)  (len : ∀ ds Q, fs ds Q → ds.length = 1)
    (pure : ∀ ds Q, fs ds Q → b_total c_plus { nx := fun _ => Q .non, rt := Q } (startD N_total ds)) : CalD P w K mg base "total" (k + 1) fs := by
  obtain ⟨f, fd, F, hm⟩ := h
  exact ⟨f, fd, ["row"], fnD (m := b_total c_plus) F S_total len (fun cdv A outer s H E hr => (dss_cons (ds_set (i := 1) S_total.nd rfl (by first | exact Or.inl rfl | exact Or.inr rfl) (de_tup (da_cons de_int (da_cons de_int da_nil)))) (dss_cons (ds_for PassesOwn.never rfl (di_seq (dq_of (de_var (pv 0)))) (dg_name (pg_name (i := 2) S_total.nd rfl (by first | exact Or.inl rfl | exact Or.inr rfl))) (dss_one (ds_set (i := 1) S_total.nd rfl (by first | exact Or.inl rfl | exact Or.inr rfl) (de_call C_plus hr (da_cons (de_var (pv 1)) (da_cons (de_var (pv 2)) da_nil)))))) (dss_one (ds_ret (de_var (pv 1))))))) pure, hm, F.kp, F.bindsN fun _ _ _ _ _ _ us hl => match us, hl with | [_], _ => rfl⟩
abbrev N_dot : List Str := ["one", "other", "k"]
theorem S_dot : FnScope N_dot ["one", "other"] (defScope (top 13)) := ⟨rfl, rfl, rfl, by decide +kernel, rfl, by decide +kernel, by decide +kernel⟩
def b_dot (c_total : FS) (c_times : FS) : SD := (mRet (mCall c_total (mCons (mFz (mLc [2] (mRange1 (mCons (mLen (mSq (mVar 0))) mNil)) (gNm 2) mYes (mCall c_times (mCons (mIx (mSq (mVar 0)) (mVar 2)) (mCons (mIx (mSq (mVar 1)) (mVar 2)) mNil))))) mNil)))
theorem k_dot {k : Nat} {fs c_total c_times : FS} (h : Has K mg "dot" 13) (Z : Bi mg) (C_total : CalD P w K mg base "total" k c_total) (C_times : CalD P w K mg base "times" k c_times)  (len : ∀ ds Q, fs ds Q → ds.length = 2)
    (pure : ∀ ds Q, fs ds Q → b_dot c_total c_times { nx := fun _ => Q .non, rt := Q } (startD N_dot ds)) : CalD P w K mg base "dot" (k + 1) fs := by
  obtain ⟨f, fd, F, hm⟩ := h
  exact ⟨f, fd, ["one", "other"], fnD (m := b_dot c_total c_times) F S_dot len (fun cdv A outer s H E hr => (dss_one (ds_ret (de_call C_total hr (da_cons (de_fz (df_lc (own := [("k", 2)]) rfl S_dot.nd (di_range1 Z.range (da_cons (de_len Z.len (dq_of (de_var (pv 0)))) da_nil)) (blkOk_by (by kernel_rfl)) (tgok_name (by decide)) (fun _ _ _ _ _ => (dg_name (pg_name (i := 2) S_dot.nd rfl (by first | exact Or.inl rfl | exact Or.inr rfl)))) (fun _ _ _ _ _ => dts_nil) (fun _ _ _ _ _ => (de_call C_times hr (da_cons (de_ix (dq_of (de_var (pv 0))) (de_var (pv 2))) (da_cons (de_ix (dq_of (de_var (pv 1))) (de_var (pv 2))) da_nil)))))) da_nil))))) pure, hm, F.kp, F.bindsN fun _ _ _ _ _ _ us hl => match us, hl with | [_, _], _ => rfl⟩
abbrev N_ahead : List Str := ["tree", "node", "k"]
theorem S_ahead : FnScope N_ahead ["tree", "node"] (defScope (top 15)) := ⟨rfl, rfl, rfl, by decide +kernel, rfl, by decide +kernel, by decide +kernel⟩
def b_ahead  : SD := (mRet (mFz (mLc [2] (mRange1 (mCons (mLen (mSq (mIx (mSq (mVar 0)) (mC (.int 2))))) mNil)) (gNm 2) (mTst (mOp oEq (mIx (mSq (mIx (mSq (mIx (mSq (mVar 0)) (mC (.int 2)))) (mVar 2))) (mC (.int 0))) (mVar 1))) (mVar 2))))
theorem k_ahead {k : Nat} {fs  : FS} (h : Has K mg "ahead" 15) (Z : Bi mg)   (len : ∀ ds Q, fs ds Q → ds.length = 2)
    (pure : ∀ ds Q, fs ds Q → b_ahead  { nx := fun _ => Q .non, rt := Q } (startD N_ahead ds)) : CalD P w K mg base "ahead" (k + 1) fs := by
  obtain ⟨f, fd, F, hm⟩ := h
  exact ⟨f, fd, ["tree", "node"], fnD (m := b_ahead ) F S_ahead len (fun cdv A outer s H E hr => (dss_one (ds_ret (de_fz (df_lc (own := [("k", 2)]) rfl S_ahead.nd (di_range1 Z.range (da_cons (de_len Z.len (dq_of (de_ix (dq_of (de_var (pv 0))) de_int))) da_nil)) (blkOk_by (by kernel_rfl)) (tgok_name (by decide)) (fun _ _ _ _ _ => (dg_name (pg_name (i := 2) S_ahead.nd rfl (by first | exact Or.inl rfl | exact Or.inr rfl)))) (fun _ _ _ _ _ => (dts_one (dt_eq hr.units (de_ix (dq_of (de_ix (dq_of (de_ix (dq_of (de_var (pv 0))) de_int)) (de_var (pv 2)))) de_int) (de_var (pv 1))))) (fun _ _ _ _ _ => (de_var (pv 2)))))))) pure, hm, F.kp, F.bindsN fun _ _ _ _ _ _ us hl => match us, hl with | [_, _], _ => rfl⟩
abbrev N_is_last : List Str := ["tree", "node"]
theorem S_is_last : FnScope N_is_last ["tree", "node"] (defScope (top 16)) := ⟨rfl, rfl, rfl, by decide +kernel, rfl, by decide +kernel, by decide +kernel⟩
def b_is_last (c_ahead : FS) : SD := (mRet (mOp oEq (mLen (mSq (mCall c_ahead (mCons (mVar 0) (mCons (mVar 1) mNil))))) (mC (.int 0))))
theorem k_is_last {k : Nat} {fs c_ahead : FS} (h : Has K mg "is_last" 16) (Z : Bi mg) (C_ahead : CalD P w K mg base "ahead" k c_ahead)  (len : ∀ ds Q, fs ds Q → ds.length = 2)
    (pure : ∀ ds Q, fs ds Q → b_is_last c_ahead { nx := fun _ => Q .non, rt := Q } (startD N_is_last ds)) : CalD P w K mg base "is_last" (k + 1) fs := by
  obtain ⟨f, fd, F, hm⟩ := h
  exact ⟨f, fd, ["tree", "node"], fnD (m := b_is_last c_ahead) F S_is_last len (fun cdv A outer s H E hr => (dss_one (ds_ret (de_eq hr.units (de_len Z.len (dq_of (de_call C_ahead hr (da_cons (de_var (pv 0)) (da_cons (de_var (pv 1)) da_nil))))) de_int)))) pure, hm, F.kp, F.bindsN fun _ _ _ _ _ _ us hl => match us, hl with | [_, _], _ => rfl⟩
abbrev N_are_chances : List Str := ["tree", "value", "node", "one"]
theorem S_are_chances : FnScope N_are_chances ["tree", "value"] (defScope (top 19)) := ⟨rfl, rfl, rfl, by decide +kernel, rfl, by decide +kernel, by decide +kernel⟩
def b_are_chances (c_are_parts : FS) (c_ahead : FS) (c_is_last : FS) (c_total : FS) : SD := (mSeq (mIfS (mOr (mNot (mTst (mIsi "tuple" (mVar 1)))) (mTst (mOp oNe (mLen (mSq (mVar 1))) (mLen (mSq (mIx (mSq (mVar 0)) (mC (.int 2)))))))) (mRet (mC (.bl false))) mNext) (mSeq (mFor (mRange1 (mCons (mLen (mSq (mVar 1))) mNil)) (gNm 2) (mSeq (mIfS (mOr (mNot (mTst (mCall c_are_parts (mCons (mIx (mSq (mVar 1)) (mVar 2)) (mCons (mLen (mSq (mCall c_ahead (mCons (mVar 0) (mCons (mVar 2) mNil))))) mNil))))) (mTst (mAny (mSq (mFz (mLc [3] (mSeqI (mSq (mIx (mSq (mVar 1)) (mVar 2)))) (gNm 3) mYes (mOp (oI0 fun i j => .bl (decide (i ≤ j))) (mIx (mSq (mVar 3)) (mC (.int 0))) (mC (.int 0))))))))) (mRet (mC (.bl false))) mNext) (mIfS (mAnd (mNot (mTst (mCall c_is_last (mCons (mVar 0) (mCons (mVar 2) mNil))))) (mTst (mOp oNe (mCall c_total (mCons (mIx (mSq (mVar 1)) (mVar 2)) mNil)) (mC (.tup [.int 1, .int 1]))))) (mRet (mC (.bl false))) mNext))) (mRet (mC (.bl true)))))
theorem k_are_chances {k : Nat} {fs c_are_parts c_ahead c_is_last c_total : FS} (h : Has K mg "are_chances" 19) (Z : Bi mg) (C_are_parts : CalD P w K mg base "are_parts" k c_are_parts) (C_ahead : CalD P w K mg base "ahead" k c_ahead) (C_is_last : CalD P w K mg base "is_last" k c_is_last) (C_total : CalD P w K mg base "total" k c_total) {v_ONE : V} {u_ONE : Value} (Q_ONE : mg "ONE" = some u_ONE ∧ RelV v_ONE u_ONE ∧ ∀ s F, Rp K s F v_ONE (.tup [.int 1, .int 1])) (len : ∀ ds Q, fs ds Q → ds.length = 2)
    (pure : ∀ ds Q, fs ds Q → b_are_chances c_are_parts c_ahead c_is_last c_total { nx := fun _ => Q .non, rt := Q } (startD N_are_chances ds)) : CalD P w K mg base "are_chances" (k + 1) fs := by
  obtain ⟨f, fd, F, hm⟩ := h
  exact ⟨f, fd, ["tree", "value"], fnD (m := b_are_chances c_are_parts c_ahead c_is_last c_total) F S_are_chances len (fun cdv A outer s H E hr => (dss_cons (ds_if (dt_w (dw_or (dt_not (dt_val (de_isi (by decide) Z.isinstance Z.tuple (by decide +kernel) (de_var (pv 1))))) (dw_or1 (dt_ne hr.units (de_len Z.len (dq_of (de_var (pv 1)))) (de_len Z.len (dq_of (de_ix (dq_of (de_var (pv 0))) de_int))))))) (dss_one (ds_ret de_bl)) dss_nil) (dss_cons (ds_for PassesOwn.never rfl (di_range1 Z.range (da_cons (de_len Z.len (dq_of (de_var (pv 1)))) da_nil)) (dg_name (pg_name (i := 2) S_are_chances.nd rfl (by first | exact Or.inl rfl | exact Or.inr rfl))) (dss_cons (ds_if (dt_w (dw_or (dt_not (dt_val (de_call C_are_parts hr (da_cons (de_ix (dq_of (de_var (pv 1))) (de_var (pv 2))) (da_cons (de_len Z.len (dq_of (de_call C_ahead hr (da_cons (de_var (pv 0)) (da_cons (de_var (pv 2)) da_nil))))) da_nil))))) (dw_or1 (dt_val (de_any rfl Z.any (dq_of (de_fz (df_lc (own := [("one", 3)]) rfl S_are_chances.nd (di_seq (dq_of (de_ix (dq_of (de_var (pv 1))) (de_var (pv 2))))) (blkOk_by (by kernel_rfl)) (tgok_name (by decide)) (fun _ _ _ _ _ => (dg_name (pg_name (i := 3) S_are_chances.nd rfl (by first | exact Or.inl rfl | exact Or.inr rfl)))) (fun _ _ _ _ _ => dts_nil) (fun _ _ _ _ _ => (de_le (de_ix (dq_of (de_var (pv 3))) de_int) de_int)))))))))) (dss_one (ds_ret de_bl)) dss_nil) (dss_one (ds_if (dt_w (dw_and (dt_not (dt_val (de_call C_is_last hr (da_cons (de_var (pv 0)) (da_cons (de_var (pv 2)) da_nil))))) (dw_and1 (dt_ne hr.units (de_call C_total hr (da_cons (de_ix (dq_of (de_var (pv 1))) (de_var (pv 2))) da_nil)) (de_glob Q_ONE.1 Q_ONE.2.1 Q_ONE.2.2))))) (dss_one (ds_ret de_bl)) dss_nil)))) (dss_one (ds_ret de_bl))))) pure, hm, F.kp, F.bindsN fun _ _ _ _ _ _ us hl => match us, hl with | [_, _], _ => rfl⟩
abbrev N_even : List Str := ["tree", "k"]
theorem S_even : FnScope N_even ["tree"] (defScope (top 20)) := ⟨rfl, rfl, rfl, by decide +kernel, rfl, by decide +kernel, by decide +kernel⟩
def b_even (c_ahead : FS) : SD := (mRet (mTupO (mSq (mFz (mLc [1] (mRange1 (mCons (mLen (mSq (mIx (mSq (mVar 0)) (mC (.int 2))))) mNil)) (gNm 1) mYes (mOp oRepT (mTup (mCons (mTup (mCons (mC (.int 1)) (mCons (mLen (mSq (mCall c_ahead (mCons (mVar 0) (mCons (mVar 1) mNil))))) mNil))) mNil)) (mLen (mSq (mCall c_ahead (mCons (mVar 0) (mCons (mVar 1) mNil)))))))))))
theorem k_even {k : Nat} {fs c_ahead : FS} (h : Has K mg "even" 20) (Z : Bi mg) (C_ahead : CalD P w K mg base "ahead" k c_ahead)  (len : ∀ ds Q, fs ds Q → ds.length = 1)
    (pure : ∀ ds Q, fs ds Q → b_even c_ahead { nx := fun _ => Q .non, rt := Q } (startD N_even ds)) : CalD P w K mg base "even" (k + 1) fs := by
  obtain ⟨f, fd, F, hm⟩ := h
  exact ⟨f, fd, ["tree"], fnD (m := b_even c_ahead) F S_even len (fun cdv A outer s H E hr => (dss_one (ds_ret (de_tupO Z.tuple (dq_of (de_fz (df_lc (own := [("k", 1)]) rfl S_even.nd (di_range1 Z.range (da_cons (de_len Z.len (dq_of (de_ix (dq_of (de_var (pv 0))) de_int))) da_nil)) (blkOk_by (by kernel_rfl)) (tgok_name (by decide)) (fun _ _ _ _ _ => (dg_name (pg_name (i := 1) S_even.nd rfl (by first | exact Or.inl rfl | exact Or.inr rfl)))) (fun _ _ _ _ _ => dts_nil) (fun _ _ _ _ _ => (de_repT (de_tup (da_cons (de_tup (da_cons de_int (da_cons (de_len Z.len (dq_of (de_call C_ahead hr (da_cons (de_var (pv 0)) (da_cons (de_var (pv 1)) da_nil))))) da_nil))) da_nil)) (de_len Z.len (dq_of (de_call C_ahead hr (da_cons (de_var (pv 0)) (da_cons (de_var (pv 1)) da_nil)))))))))))))) pure, hm, F.kp, F.bindsN fun _ _ _ _ _ _ us hl => match us, hl with | [_], _ => rfl⟩
abbrev N_chance : List Str := ["tree", "chances", "node", "found", "behind"]
theorem S_chance : FnScope N_chance ["tree", "chances", "node"] (defScope (top 21)) := ⟨rfl, rfl, rfl, by decide +kernel, rfl, by decide +kernel, by decide +kernel⟩
def b_chance (c_times : FS) (c_ahead : FS) : SD := (mSeq (mSet 3 (mC (.tup [.int 1, .int 1]))) (mSeq (mWhile (mTst (mOp oNe (mVar 2) (mC (.int 0)))) (mSeq (mSet 4 (mIx (mSq (mIx (mSq (mIx (mSq (mVar 0)) (mC (.int 2)))) (mVar 2))) (mC (.int 0)))) (mSeq (mSet 3 (mCall c_times (mCons (mVar 3) (mCons (mIx (mSq (mIx (mSq (mVar 1)) (mVar 4))) (mIndex (mSq (mCall c_ahead (mCons (mVar 0) (mCons (mVar 4) mNil)))) (mVar 2))) mNil)))) (mSet 2 (mVar 4))))) (mRet (mVar 3))))
theorem k_chance {k : Nat} {fs c_times c_ahead : FS} (h : Has K mg "chance" 21) (Z : Bi mg) (C_times : CalD P w K mg base "times" k c_times) (C_ahead : CalD P w K mg base "ahead" k c_ahead) {v_ONE : V} {u_ONE : Value} (Q_ONE : mg "ONE" = some u_ONE ∧ RelV v_ONE u_ONE ∧ ∀ s F, Rp K s F v_ONE (.tup [.int 1, .int 1])) (len : ∀ ds Q, fs ds Q → ds.length = 3)
    (pure : ∀ ds Q, fs ds Q → b_chance c_times c_ahead { nx := fun _ => Q .non, rt := Q } (startD N_chance ds)) : CalD P w K mg base "chance" (k + 1) fs := by
  obtain ⟨f, fd, F, hm⟩ := h
  exact ⟨f, fd, ["tree", "chances", "node"], fnD (m := b_chance c_times c_ahead) F S_chance len (fun cdv A outer s H E hr => (dss_cons (ds_set (i := 3) S_chance.nd rfl (by first | exact Or.inl rfl | exact Or.inr rfl) (de_glob Q_ONE.1 Q_ONE.2.1 Q_ONE.2.2)) (dss_cons (ds_while PassesOwn.never (dt_ne hr.units (de_var (pv 2)) de_int) (dss_cons (ds_set (i := 4) S_chance.nd rfl (by first | exact Or.inl rfl | exact Or.inr rfl) (de_ix (dq_of (de_ix (dq_of (de_ix (dq_of (de_var (pv 0))) de_int)) (de_var (pv 2)))) de_int)) (dss_cons (ds_set (i := 3) S_chance.nd rfl (by first | exact Or.inl rfl | exact Or.inr rfl) (de_call C_times hr (da_cons (de_var (pv 3)) (da_cons (de_ix (dq_of (de_ix (dq_of (de_var (pv 1))) (de_var (pv 4)))) (de_index (dq_of (de_call C_ahead hr (da_cons (de_var (pv 0)) (da_cons (de_var (pv 4)) da_nil)))) (de_var (pv 2)))) da_nil)))) (dss_one (ds_set (i := 2) S_chance.nd rfl (by first | exact Or.inl rfl | exact Or.inr rfl) (de_var (pv 4))))))) (dss_one (ds_ret (de_var (pv 3))))))) pure, hm, F.kp, F.bindsN fun _ _ _ _ _ _ us hl => match us, hl with | [_, _, _], _ => rfl⟩
abbrev N_mean : List Str := ["tree", "chances", "row", "k"]
theorem S_mean : FnScope N_mean ["tree", "chances", "row"] (defScope (top 22)) := ⟨rfl, rfl, rfl, by decide +kernel, rfl, by decide +kernel, by decide +kernel⟩
def b_mean (c_total : FS) (c_times : FS) (c_chance : FS) : SD := (mRet (mCall c_total (mCons (mFz (mLc [3] (mRange1 (mCons (mLen (mSq (mVar 2))) mNil)) (gNm 3) mYes (mCall c_times (mCons (mIx (mSq (mVar 2)) (mVar 3)) (mCons (mCall c_chance (mCons (mVar 0) (mCons (mVar 1) (mCons (mVar 3) mNil)))) mNil))))) mNil)))
theorem k_mean {k : Nat} {fs c_total c_times c_chance : FS} (h : Has K mg "mean" 22) (Z : Bi mg) (C_total : CalD P w K mg base "total" k c_total) (C_times : CalD P w K mg base "times" k c_times) (C_chance : CalD P w K mg base "chance" k c_chance)  (len : ∀ ds Q, fs ds Q → ds.length = 3)
    (pure : ∀ ds Q, fs ds Q → b_mean c_total c_times c_chance { nx := fun _ => Q .non, rt := Q } (startD N_mean ds)) : CalD P w K mg base "mean" (k + 1) fs := by
  obtain ⟨f, fd, F, hm⟩ := h
  exact ⟨f, fd, ["tree", "chances", "row"], fnD (m := b_mean c_total c_times c_chance) F S_mean len (fun cdv A outer s H E hr => (dss_one (ds_ret (de_call C_total hr (da_cons (de_fz (df_lc (own := [("k", 3)]) rfl S_mean.nd (di_range1 Z.range (da_cons (de_len Z.len (dq_of (de_var (pv 2)))) da_nil)) (blkOk_by (by kernel_rfl)) (tgok_name (by decide)) (fun _ _ _ _ _ => (dg_name (pg_name (i := 3) S_mean.nd rfl (by first | exact Or.inl rfl | exact Or.inr rfl)))) (fun _ _ _ _ _ => dts_nil) (fun _ _ _ _ _ => (de_call C_times hr (da_cons (de_ix (dq_of (de_var (pv 2))) (de_var (pv 3))) (da_cons (de_call C_chance hr (da_cons (de_var (pv 0)) (da_cons (de_var (pv 1)) (da_cons (de_var (pv 3)) da_nil)))) da_nil)))))) da_nil))))) pure, hm, F.kp, F.bindsN fun _ _ _ _ _ _ us hl => match us, hl with | [_, _, _], _ => rfl⟩
abbrev N_worst : List Str := ["values", "chances", "share", "left", "found", "k", "taken"]
theorem S_worst : FnScope N_worst ["values", "chances", "share"] (defScope (top 23)) := ⟨rfl, rfl, rfl, by decide +kernel, rfl, by decide +kernel, by decide +kernel⟩
def b_worst (c_sorted_places : FS) (c_least : FS) (c_plus : FS) (c_times : FS) (c_minus : FS) (c_over : FS) : SD := (mSeq (mPar 3 4 (mCons (mVar 2) (mCons (mTup (mCons (mC (.int 0)) (mCons (mC (.int 1)) mNil))) mNil))) (mSeq (mFor (mSeqI (mSq (mCall c_sorted_places (mCons (mVar 0) mNil)))) (gNm 5) (mSeq (mSet 6 (mCall c_least (mCons (mFz (mLst (mCons (mVar 3) (mCons (mIx (mSq (mVar 1)) (mVar 5)) mNil)))) mNil))) (mSeq (mSet 4 (mCall c_plus (mCons (mVar 4) (mCons (mCall c_times (mCons (mVar 6) (mCons (mIx (mSq (mVar 0)) (mVar 5)) mNil))) mNil)))) (mSet 3 (mCall c_minus (mCons (mVar 3) (mCons (mVar 6) mNil))))))) (mRet (mCall c_over (mCons (mVar 4) (mCons (mVar 2) mNil))))))
theorem k_worst {k : Nat} {fs c_sorted_places c_least c_plus c_times c_minus c_over : FS} (h : Has K mg "worst" 23) (Z : Bi mg) (C_sorted_places : CalD P w K mg base "sorted_places" k c_sorted_places) (C_least : CalD P w K mg base "least" k c_least) (C_plus : CalD P w K mg base "plus" k c_plus) (C_times : CalD P w K mg base "times" k c_times) (C_minus : CalD P w K mg base "minus" k c_minus) (C_over : CalD P w K mg base "over" k c_over)  (len : ∀ ds Q, fs ds Q → ds.length = 3)
    (pure : ∀ ds Q, fs ds Q → b_worst c_sorted_places c_least c_plus c_times c_minus c_over { nx := fun _ => Q .non, rt := Q } (startD N_worst ds)) : CalD P w K mg base "worst" (k + 1) fs := by
  obtain ⟨f, fd, F, hm⟩ := h
  exact ⟨f, fd, ["values", "chances", "share"], fnD (m := b_worst c_sorted_places c_least c_plus c_times c_minus c_over) F S_worst len (fun cdv A outer s H E hr => (dss_cons (ds_par (i := 3) (j := 4) rfl S_worst.nd rfl rfl (by decide) rfl rfl (da_cons (de_var (pv 2)) (da_cons (de_tup (da_cons de_int (da_cons de_int da_nil))) da_nil))) (dss_cons (ds_for PassesOwn.never rfl (di_seq (dq_of (de_call C_sorted_places hr (da_cons (de_var (pv 0)) da_nil)))) (dg_name (pg_name (i := 5) S_worst.nd rfl (by first | exact Or.inl rfl | exact Or.inr rfl))) (dss_cons (ds_set (i := 6) S_worst.nd rfl (by first | exact Or.inl rfl | exact Or.inr rfl) (de_call C_least hr (da_cons (de_fz (df_lst (da_cons (de_var (pv 3)) (da_cons (de_ix (dq_of (de_var (pv 1))) (de_var (pv 5))) da_nil)))) da_nil))) (dss_cons (ds_set (i := 4) S_worst.nd rfl (by first | exact Or.inl rfl | exact Or.inr rfl) (de_call C_plus hr (da_cons (de_var (pv 4)) (da_cons (de_call C_times hr (da_cons (de_var (pv 6)) (da_cons (de_ix (dq_of (de_var (pv 0))) (de_var (pv 5))) da_nil))) da_nil)))) (dss_one (ds_set (i := 3) S_worst.nd rfl (by first | exact Or.inl rfl | exact Or.inr rfl) (de_call C_minus hr (da_cons (de_var (pv 3)) (da_cons (de_var (pv 6)) da_nil)))))))) (dss_one (ds_ret (de_call C_over hr (da_cons (de_var (pv 4)) (da_cons (de_var (pv 2)) da_nil)))))))) pure, hm, F.kp, F.bindsN fun _ _ _ _ _ _ us hl => match us, hl with | [_, _, _], _ => rfl⟩
abbrev N_sorted_places : List Str := ["values", "rest", "found", "best", "k"]
theorem S_sorted_places : FnScope N_sorted_places ["values"] (defScope (top 24)) := ⟨rfl, rfl, rfl, by decide +kernel, rfl, by decide +kernel, by decide +kernel⟩
def b_sorted_places (c_is_less : FS) : SD := (mSeq (mParOO 1 2 (mLrg1 (mLen (mSq (mVar 0)))) (mLst mNil)) (mSeq (mWhile (mTst (mNeQ (mOwn 1) (mFz (mLst mNil)))) (mSeq (mSet 3 (mIx (mOwn 1) (mC (.int 0)))) (mSeq (mFor (mSeqI (mOwn 1)) (gNm 4) (mSet 3 (mIf (mTst (mCall c_is_less (mCons (mIx (mSq (mVar 0)) (mVar 4)) (mCons (mIx (mSq (mVar 0)) (mVar 3)) mNil)))) (mVar 4) (mVar 3)))) (mSeq (mApp 2 (mVar 3)) (mRem 1 (mVar 3)))))) (mGive 2 (mRet (mVar 2)))))
theorem k_sorted_places {k : Nat} {fs c_is_less : FS} (h : Has K mg "sorted_places" 24) (Z : Bi mg) (C_is_less : CalD P w K mg base "is_less" k c_is_less)  (len : ∀ ds Q, fs ds Q → ds.length = 1)
    (pure : ∀ ds Q, fs ds Q → b_sorted_places c_is_less { nx := fun _ => Q .non, rt := Q } (startD N_sorted_places ds)) : CalD P w K mg base "sorted_places" (k + 1) fs := by
  obtain ⟨f, fd, F, hm⟩ := h
  exact ⟨f, fd, ["values"], fnD (m := b_sorted_places c_is_less) F S_sorted_places len (fun cdv A outer s H E hr => (dss_cons (ds_parOO (i := 1) (j := 2) rfl S_sorted_places.nd rfl rfl (by decide) rfl rfl (df_lrg1 rfl Z.list Z.range (de_len Z.len (dq_of (de_var (pv 0))))) (df_lst da_nil)) (dss_cons (ds_while PassesOwn.never (dt_neQ hr.units (dq_own (pv 1)) (de_fz (df_lst da_nil))) (dss_cons (ds_set (i := 3) S_sorted_places.nd rfl (by first | exact Or.inl rfl | exact Or.inr rfl) (de_ix (dq_own (pv 1)) de_int)) (dss_cons (ds_for PassesOwn.never rfl (di_seq (dq_own (pv 1))) (dg_name (pg_name (i := 4) S_sorted_places.nd rfl (by first | exact Or.inl rfl | exact Or.inr rfl))) (dss_one (ds_set (i := 3) S_sorted_places.nd rfl (by first | exact Or.inl rfl | exact Or.inr rfl) (de_if (dt_val (de_call C_is_less hr (da_cons (de_ix (dq_of (de_var (pv 0))) (de_var (pv 4))) (da_cons (de_ix (dq_of (de_var (pv 0))) (de_var (pv 3))) da_nil)))) (de_var (pv 4)) (de_var (pv 3)))))) (dss_cons (ds_app (pv 2) (de_var (pv 3))) (dss_one (ds_rem (pv 1) (de_var (pv 3)))))))) (dss_give 2 (dss_one (ds_ret (de_var (pv 2)))))))) pure, hm, F.kp, F.bindsN fun _ _ _ _ _ _ us hl => match us, hl with | [_], _ => rfl⟩
abbrev N_worst_weights : List Str := ["values", "chances", "share", "left", "found", "k", "taken"]
theorem S_worst_weights : FnScope N_worst_weights ["values", "chances", "share"] (defScope (top 25)) := ⟨rfl, rfl, rfl, by decide +kernel, rfl, by decide +kernel, by decide +kernel⟩
def b_worst_weights (c_sorted_places : FS) (c_least : FS) (c_over : FS) (c_minus : FS) : SD := (mSeq (mParO 3 4 (mVar 2) (mRepL (mFz (mLst (mCons (mTup (mCons (mC (.int 0)) (mCons (mC (.int 1)) mNil))) mNil))) (mLen (mSq (mVar 0))))) (mSeq (mFor (mSeqI (mSq (mCall c_sorted_places (mCons (mVar 0) mNil)))) (gNm 5) (mSeq (mSet 6 (mCall c_least (mCons (mFz (mLst (mCons (mVar 3) (mCons (mIx (mSq (mVar 1)) (mVar 5)) mNil)))) mNil))) (mSeq (mSetIx 4 (mVar 5) (mCall c_over (mCons (mVar 6) (mCons (mVar 2) mNil)))) (mSet 3 (mCall c_minus (mCons (mVar 3) (mCons (mVar 6) mNil))))))) (mRet (mTupO (mOwn 4)))))
theorem k_worst_weights {k : Nat} {fs c_sorted_places c_least c_over c_minus : FS} (h : Has K mg "worst_weights" 25) (Z : Bi mg) (C_sorted_places : CalD P w K mg base "sorted_places" k c_sorted_places) (C_least : CalD P w K mg base "least" k c_least) (C_over : CalD P w K mg base "over" k c_over) (C_minus : CalD P w K mg base "minus" k c_minus)  (len : ∀ ds Q, fs ds Q → ds.length = 3)
    (pure : ∀ ds Q, fs ds Q → b_worst_weights c_sorted_places c_least c_over c_minus { nx := fun _ => Q .non, rt := Q } (startD N_worst_weights ds)) : CalD P w K mg base "worst_weights" (k + 1) fs := by
  obtain ⟨f, fd, F, hm⟩ := h
  exact ⟨f, fd, ["values", "chances", "share"], fnD (m := b_worst_weights c_sorted_places c_least c_over c_minus) F S_worst_weights len (fun cdv A outer s H E hr => (dss_cons (ds_parO (i := 3) (j := 4) rfl S_worst_weights.nd rfl rfl (by decide) rfl rfl (de_var (pv 2)) (df_repL (de_fz (df_lst (da_cons (de_tup (da_cons de_int (da_cons de_int da_nil))) da_nil))) (de_len Z.len (dq_of (de_var (pv 0)))))) (dss_cons (ds_for PassesOwn.never rfl (di_seq (dq_of (de_call C_sorted_places hr (da_cons (de_var (pv 0)) da_nil)))) (dg_name (pg_name (i := 5) S_worst_weights.nd rfl (by first | exact Or.inl rfl | exact Or.inr rfl))) (dss_cons (ds_set (i := 6) S_worst_weights.nd rfl (by first | exact Or.inl rfl | exact Or.inr rfl) (de_call C_least hr (da_cons (de_fz (df_lst (da_cons (de_var (pv 3)) (da_cons (de_ix (dq_of (de_var (pv 1))) (de_var (pv 5))) da_nil)))) da_nil))) (dss_cons (ds_setIx (pv 4) (de_var (pv 5)) (de_call C_over hr (da_cons (de_var (pv 6)) (da_cons (de_var (pv 2)) da_nil)))) (dss_one (ds_set (i := 3) S_worst_weights.nd rfl (by first | exact Or.inl rfl | exact Or.inr rfl) (de_call C_minus hr (da_cons (de_var (pv 3)) (da_cons (de_var (pv 6)) da_nil)))))))) (dss_one (ds_ret (de_tupO Z.tuple (dq_own (pv 4)))))))) pure, hm, F.kp, F.bindsN fun _ _ _ _ _ _ us hl => match us, hl with | [_, _, _], _ => rfl⟩
abbrev N_accepts_weights : List Str := ["values", "chances", "share", "told", "value", "one", "k"]
theorem S_accepts_weights : FnScope N_accepts_weights ["values", "chances", "share", "told", "value"] (defScope (top 26)) := ⟨rfl, rfl, rfl, by decide +kernel, rfl, by decide +kernel, by decide +kernel⟩
def b_accepts_weights (c_are_parts : FS) (c_total : FS) (c_is_less : FS) (c_over : FS) (c_dot : FS) : SD := (mSeq (mIfS (mOr (mNot (mTst (mCall c_are_parts (mCons (mVar 4) (mCons (mLen (mSq (mVar 0))) mNil))))) (mOr (mTst (mOp oNe (mCall c_total (mCons (mVar 4) mNil)) (mC (.tup [.int 1, .int 1])))) (mTst (mAny (mSq (mFz (mLc [5] (mSeqI (mSq (mVar 4))) (gNm 5) mYes (mOp (oI0 fun i j => .bl (decide (i < j))) (mIx (mSq (mVar 5)) (mC (.int 0))) (mC (.int 0)))))))))) (mRet (mC (.bl false))) mNext) (mSeq (mIfS (mTst (mAny (mSq (mFz (mLc [6] (mRange1 (mCons (mLen (mSq (mVar 4))) mNil)) (gNm 6) mYes (mCall c_is_less (mCons (mCall c_over (mCons (mIx (mSq (mVar 1)) (mVar 6)) (mCons (mVar 2) mNil))) (mCons (mIx (mSq (mVar 4)) (mVar 6)) mNil)))))))) (mRet (mC (.bl false))) mNext) (mRet (mNotV (mCall c_is_less (mCons (mVar 3) (mCons (mCall c_dot (mCons (mVar 4) (mCons (mVar 0) mNil))) mNil)))))))
theorem k_accepts_weights {k : Nat} {fs c_are_parts c_total c_is_less c_over c_dot : FS} (h : Has K mg "accepts_weights" 26) (Z : Bi mg) (C_are_parts : CalD P w K mg base "are_parts" k c_are_parts) (C_total : CalD P w K mg base "total" k c_total) (C_is_less : CalD P w K mg base "is_less" k c_is_less) (C_over : CalD P w K mg base "over" k c_over) (C_dot : CalD P w K mg base "dot" k c_dot) {v_ONE : V} {u_ONE : Value} (Q_ONE : mg "ONE" = some u_ONE ∧ RelV v_ONE u_ONE ∧ ∀ s F, Rp K s F v_ONE (.tup [.int 1, .int 1])) (len : ∀ ds Q, fs ds Q → ds.length = 5)
    (pure : ∀ ds Q, fs ds Q → b_accepts_weights c_are_parts c_total c_is_less c_over c_dot { nx := fun _ => Q .non, rt := Q } (startD N_accepts_weights ds)) : CalD P w K mg base "accepts_weights" (k + 1) fs := by
  obtain ⟨f, fd, F, hm⟩ := h
  exact ⟨f, fd, ["values", "chances", "share", "told", "value"], fnD (m := b_accepts_weights c_are_parts c_total c_is_less c_over c_dot) F S_accepts_weights len (fun cdv A outer s H E hr => (dss_cons (ds_if (dt_w (dw_or (dt_not (dt_val (de_call C_are_parts hr (da_cons (de_var (pv 4)) (da_cons (de_len Z.len (dq_of (de_var (pv 0)))) da_nil))))) (dw_or (dt_ne hr.units (de_call C_total hr (da_cons (de_var (pv 4)) da_nil)) (de_glob Q_ONE.1 Q_ONE.2.1 Q_ONE.2.2)) (dw_or1 (dt_val (de_any rfl Z.any (dq_of (de_fz (df_lc (own := [("one", 5)]) rfl S_accepts_weights.nd (di_seq (dq_of (de_var (pv 4)))) (blkOk_by (by kernel_rfl)) (tgok_name (by decide)) (fun _ _ _ _ _ => (dg_name (pg_name (i := 5) S_accepts_weights.nd rfl (by first | exact Or.inl rfl | exact Or.inr rfl)))) (fun _ _ _ _ _ => dts_nil) (fun _ _ _ _ _ => (de_lt (de_ix (dq_of (de_var (pv 5))) de_int) de_int))))))))))) (dss_one (ds_ret de_bl)) dss_nil) (dss_cons (ds_if (dt_val (de_any rfl Z.any (dq_of (de_fz (df_lc (own := [("k", 6)]) rfl S_accepts_weights.nd (di_range1 Z.range (da_cons (de_len Z.len (dq_of (de_var (pv 4)))) da_nil)) (blkOk_by (by kernel_rfl)) (tgok_name (by decide)) (fun _ _ _ _ _ => (dg_name (pg_name (i := 6) S_accepts_weights.nd rfl (by first | exact Or.inl rfl | exact Or.inr rfl)))) (fun _ _ _ _ _ => dts_nil) (fun _ _ _ _ _ => (de_call C_is_less hr (da_cons (de_call C_over hr (da_cons (de_ix (dq_of (de_var (pv 1))) (de_var (pv 6))) (da_cons (de_var (pv 2)) da_nil))) (da_cons (de_ix (dq_of (de_var (pv 4))) (de_var (pv 6))) da_nil))))))))) (dss_one (ds_ret de_bl)) dss_nil) (dss_one (ds_ret (de_not (de_call C_is_less hr (da_cons (de_var (pv 3)) (da_cons (de_call C_dot hr (da_cons (de_var (pv 4)) (da_cons (de_var (pv 0)) da_nil))) da_nil))))))))) pure, hm, F.kp, F.bindsN fun _ _ _ _ _ _ us hl => match us, hl with | [_, _, _, _, _], _ => rfl⟩
abbrev N_worst_costs : List Str := ["tree", "chances", "share", "row", "found", "node", "dues", "k"]
theorem S_worst_costs : FnScope N_worst_costs ["tree", "chances", "share", "row"] (defScope (top 27)) := ⟨rfl, rfl, rfl, by decide +kernel, rfl, by decide +kernel, by decide +kernel⟩
def b_worst_costs (c_is_last : FS) (c_ahead : FS) (c_negative : FS) (c_plus : FS) (c_worst : FS) : SD := (mSeq (mSetOw 4 (mRepL (mFz (mLst (mCons (mC .non) mNil))) (mLen (mSq (mIx (mSq (mVar 0)) (mC (.int 2))))))) (mSeq (mFor (mRange3 (mCons (mOp (oI0 fun i j => .int (i - j)) (mLen (mSq (mIx (mSq (mVar 0)) (mC (.int 2))))) (mC (.int 1))) (mCons (mNeg (mC (.int 1))) (mCons (mNeg (mC (.int 1))) mNil)))) (gNm 5) (mSeq (mSetIx 4 (mVar 5) (mIx (mSq (mVar 3)) (mVar 5))) (mIfS (mNot (mTst (mCall c_is_last (mCons (mVar 0) (mCons (mVar 5) mNil))))) (mSeq (mSet 6 (mFz (mLc [7] (mSeqI (mSq (mCall c_ahead (mCons (mVar 0) (mCons (mVar 5) mNil))))) (gNm 7) mYes (mCall c_negative (mCons (mIx (mOwn 4) (mVar 7)) mNil))))) (mSetIx 4 (mVar 5) (mCall c_plus (mCons (mIx (mSq (mVar 3)) (mVar 5)) (mCons (mCall c_negative (mCons (mCall c_worst (mCons (mVar 6) (mCons (mIx (mSq (mVar 1)) (mVar 5)) (mCons (mVar 2) mNil)))) mNil)) mNil))))) mNext))) (mGive 4 (mRet (mVar 4)))))
theorem k_worst_costs {k : Nat} {fs c_is_last c_ahead c_negative c_plus c_worst : FS} (h : Has K mg "worst_costs" 27) (Z : Bi mg) (C_is_last : CalD P w K mg base "is_last" k c_is_last) (C_ahead : CalD P w K mg base "ahead" k c_ahead) (C_negative : CalD P w K mg base "negative" k c_negative) (C_plus : CalD P w K mg base "plus" k c_plus) (C_worst : CalD P w K mg base "worst" k c_worst)  (len : ∀ ds Q, fs ds Q → ds.length = 4)
    (pure : ∀ ds Q, fs ds Q → b_worst_costs c_is_last c_ahead c_negative c_plus c_worst { nx := fun _ => Q .non, rt := Q } (startD N_worst_costs ds)) : CalD P w K mg base "worst_costs" (k + 1) fs := by
  obtain ⟨f, fd, F, hm⟩ := h
  exact ⟨f, fd, ["tree", "chances", "share", "row"], fnD (m := b_worst_costs c_is_last c_ahead c_negative c_plus c_worst) F S_worst_costs len (fun cdv A outer s H E hr => (dss_cons (ds_setF (i := 4) S_worst_costs.nd rfl (by first | exact Or.inl rfl | exact Or.inr rfl) (df_repL (de_fz (df_lst (da_cons de_non da_nil))) (de_len Z.len (dq_of (de_ix (dq_of (de_var (pv 0))) de_int))))) (dss_cons (ds_for PassesOwn.never rfl (di_range3 Z.range (da_cons (de_sub (de_len Z.len (dq_of (de_ix (dq_of (de_var (pv 0))) de_int))) de_int) (da_cons (de_neg de_int) (da_cons (de_neg de_int) da_nil)))) (dg_name (pg_name (i := 5) S_worst_costs.nd rfl (by first | exact Or.inl rfl | exact Or.inr rfl))) (dss_cons (ds_setIx (pv 4) (de_var (pv 5)) (de_ix (dq_of (de_var (pv 3))) (de_var (pv 5)))) (dss_one (ds_if (dt_not (dt_val (de_call C_is_last hr (da_cons (de_var (pv 0)) (da_cons (de_var (pv 5)) da_nil))))) (dss_cons (ds_lc (ps_lcS (i := 6) (own := [("k", 7)]) rfl S_worst_costs.nd rfl rfl (sw_true rfl rfl rfl (by decide +kernel)) (di_seq (dq_of (de_call C_ahead hr (da_cons (de_var (pv 0)) (da_cons (de_var (pv 5)) da_nil))))) (blkOk_by (by kernel_rfl)) (tgok_name (by decide)) (fun _ _ _ _ _ => (dg_name (pg_name (i := 7) S_worst_costs.nd rfl (by first | exact Or.inl rfl | exact Or.inr rfl)))) (fun _ _ _ _ _ => dts_nil) (fun _ _ _ _ _ => (de_call C_negative hr (da_cons (de_ix (dq_own (pv 4)) (de_var (pv 7))) da_nil))))) (dss_one (ds_setIx (pv 4) (de_var (pv 5)) (de_call C_plus hr (da_cons (de_ix (dq_of (de_var (pv 3))) (de_var (pv 5))) (da_cons (de_call C_negative hr (da_cons (de_call C_worst hr (da_cons (de_var (pv 6)) (da_cons (de_ix (dq_of (de_var (pv 1))) (de_var (pv 5))) (da_cons (de_var (pv 2)) da_nil)))) da_nil)) da_nil)))))) dss_nil)))) (dss_give 4 (dss_one (ds_ret (de_var (pv 4)))))))) pure, hm, F.kp, F.bindsN fun _ _ _ _ _ _ us hl => match us, hl with | [_, _, _, _], _ => rfl⟩
abbrev N_worst_cost : List Str := ["tree", "chances", "share", "row"]
theorem S_worst_cost : FnScope N_worst_cost ["tree", "chances", "share", "row"] (defScope (top 28)) := ⟨rfl, rfl, rfl, by decide +kernel, rfl, by decide +kernel, by decide +kernel⟩
def b_worst_cost (c_worst_costs : FS) : SD := (mRet (mIx (mSq (mCall c_worst_costs (mCons (mVar 0) (mCons (mVar 1) (mCons (mVar 2) (mCons (mVar 3) mNil)))))) (mC (.int 0))))
theorem k_worst_cost {k : Nat} {fs c_worst_costs : FS} (h : Has K mg "worst_cost" 28) (Z : Bi mg) (C_worst_costs : CalD P w K mg base "worst_costs" k c_worst_costs)  (len : ∀ ds Q, fs ds Q → ds.length = 4)
    (pure : ∀ ds Q, fs ds Q → b_worst_cost c_worst_costs { nx := fun _ => Q .non, rt := Q } (startD N_worst_cost ds)) : CalD P w K mg base "worst_cost" (k + 1) fs := by
  obtain ⟨f, fd, F, hm⟩ := h
  exact ⟨f, fd, ["tree", "chances", "share", "row"], fnD (m := b_worst_cost c_worst_costs) F S_worst_cost len (fun cdv A outer s H E hr => (dss_one (ds_ret (de_ix (dq_of (de_call C_worst_costs hr (da_cons (de_var (pv 0)) (da_cons (de_var (pv 1)) (da_cons (de_var (pv 2)) (da_cons (de_var (pv 3)) da_nil)))))) de_int)))) pure, hm, F.kp, F.bindsN fun _ _ _ _ _ _ us hl => match us, hl with | [_, _, _, _], _ => rfl⟩
abbrev N_greatest_cost : List Str := ["tree", "row"]
theorem S_greatest_cost : FnScope N_greatest_cost ["tree", "row"] (defScope (top 29)) := ⟨rfl, rfl, rfl, by decide +kernel, rfl, by decide +kernel, by decide +kernel⟩
def b_greatest_cost (c_greatest_from : FS) : SD := (mRet (mCall c_greatest_from (mCons (mVar 0) (mCons (mVar 1) (mCons (mC (.int 0)) mNil)))))
theorem k_greatest_cost {k : Nat} {fs c_greatest_from : FS} (h : Has K mg "greatest_cost" 29) (Z : Bi mg) (C_greatest_from : CalD P w K mg base "greatest_from" k c_greatest_from)  (len : ∀ ds Q, fs ds Q → ds.length = 2)
    (pure : ∀ ds Q, fs ds Q → b_greatest_cost c_greatest_from { nx := fun _ => Q .non, rt := Q } (startD N_greatest_cost ds)) : CalD P w K mg base "greatest_cost" (k + 1) fs := by
  obtain ⟨f, fd, F, hm⟩ := h
  exact ⟨f, fd, ["tree", "row"], fnD (m := b_greatest_cost c_greatest_from) F S_greatest_cost len (fun cdv A outer s H E hr => (dss_one (ds_ret (de_call C_greatest_from hr (da_cons (de_var (pv 0)) (da_cons (de_var (pv 1)) (da_cons de_int da_nil))))))) pure, hm, F.kp, F.bindsN fun _ _ _ _ _ _ us hl => match us, hl with | [_, _], _ => rfl⟩
abbrev N_greatest_from : List Str := ["tree", "row", "node", "told", "k", "best", "one"]
theorem S_greatest_from : FnScope N_greatest_from ["tree", "row", "node"] (defScope (top 30)) := ⟨rfl, rfl, rfl, by decide +kernel, rfl, by decide +kernel, by decide +kernel⟩
def b_greatest_from (c_ahead : FS) (c_greatest_from : FS) (c_is_less : FS) (c_plus : FS) : SD := (mSeq (mSet 3 (mFz (mLc [4] (mSeqI (mSq (mCall c_ahead (mCons (mVar 0) (mCons (mVar 2) mNil))))) (gNm 4) mYes (mCall c_greatest_from (mCons (mVar 0) (mCons (mVar 1) (mCons (mVar 4) mNil))))))) (mSeq (mSet 5 (mIf (mTst (mOp oEq (mVar 3) (mFz (mLst mNil)))) (mTup (mCons (mC (.int 0)) (mCons (mC (.int 1)) mNil))) (mIx (mSq (mVar 3)) (mC (.int 0))))) (mSeq (mFor (mSeqI (mSq (mVar 3))) (gNm 6) (mSet 5 (mIf (mTst (mCall c_is_less (mCons (mVar 5) (mCons (mVar 6) mNil)))) (mVar 6) (mVar 5)))) (mRet (mCall c_plus (mCons (mIx (mSq (mVar 1)) (mVar 2)) (mCons (mVar 5) mNil)))))))
theorem k_greatest_from {k : Nat} {fs c_ahead c_greatest_from c_is_less c_plus : FS} (h : Has K mg "greatest_from" 30) (Z : Bi mg) (C_ahead : CalD P w K mg base "ahead" k c_ahead) (C_greatest_from : CalD P w K mg base "greatest_from" k c_greatest_from) (C_is_less : CalD P w K mg base "is_less" k c_is_less) (C_plus : CalD P w K mg base "plus" k c_plus)  (len : ∀ ds Q, fs ds Q → ds.length = 3)
    (pure : ∀ ds Q, fs ds Q → b_greatest_from c_ahead c_greatest_from c_is_less c_plus { nx := fun _ => Q .non, rt := Q } (startD N_greatest_from ds)) : CalD P w K mg base "greatest_from" (k + 1) fs := by
  obtain ⟨f, fd, F, hm⟩ := h
  exact ⟨f, fd, ["tree", "row", "node"], fnD (m := b_greatest_from c_ahead c_greatest_from c_is_less c_plus) F S_greatest_from len (fun cdv A outer s H E hr => (dss_cons (ds_lc (ps_lcS (i := 3) (own := [("k", 4)]) rfl S_greatest_from.nd rfl rfl (sw_true rfl rfl rfl (by decide +kernel)) (di_seq (dq_of (de_call C_ahead hr (da_cons (de_var (pv 0)) (da_cons (de_var (pv 2)) da_nil))))) (blkOk_by (by kernel_rfl)) (tgok_name (by decide)) (fun _ _ _ _ _ => (dg_name (pg_name (i := 4) S_greatest_from.nd rfl (by first | exact Or.inl rfl | exact Or.inr rfl)))) (fun _ _ _ _ _ => dts_nil) (fun _ _ _ _ _ => (de_call C_greatest_from hr (da_cons (de_var (pv 0)) (da_cons (de_var (pv 1)) (da_cons (de_var (pv 4)) da_nil))))))) (dss_cons (ds_set (i := 5) S_greatest_from.nd rfl (by first | exact Or.inl rfl | exact Or.inr rfl) (de_if (dt_eq hr.units (de_var (pv 3)) (de_fz (df_lst da_nil))) (de_tup (da_cons de_int (da_cons de_int da_nil))) (de_ix (dq_of (de_var (pv 3))) de_int))) (dss_cons (ds_for PassesOwn.never rfl (di_seq (dq_of (de_var (pv 3)))) (dg_name (pg_name (i := 6) S_greatest_from.nd rfl (by first | exact Or.inl rfl | exact Or.inr rfl))) (dss_one (ds_set (i := 5) S_greatest_from.nd rfl (by first | exact Or.inl rfl | exact Or.inr rfl) (de_if (dt_val (de_call C_is_less hr (da_cons (de_var (pv 5)) (da_cons (de_var (pv 6)) da_nil)))) (de_var (pv 6)) (de_var (pv 5)))))) (dss_one (ds_ret (de_call C_plus hr (da_cons (de_ix (dq_of (de_var (pv 1))) (de_var (pv 2))) (da_cons (de_var (pv 5)) da_nil))))))))) pure, hm, F.kp, F.bindsN fun _ _ _ _ _ _ us hl => match us, hl with | [_, _, _], _ => rfl⟩
abbrev N_tilted : List Str := ["tree", "chances", "weights", "found", "k", "j"]
theorem S_tilted : FnScope N_tilted ["tree", "chances", "weights"] (defScope (top 31)) := ⟨rfl, rfl, rfl, by decide +kernel, rfl, by decide +kernel, by decide +kernel⟩
def b_tilted (c_over : FS) : SD := (mSeq (mSetOw 3 (mLst mNil)) (mSeq (mFor (mRange1 (mCons (mLen (mSq (mVar 1))) mNil)) (gNm 4) (mApp 3 (mTupO (mSq (mFz (mLc [5] (mRange1 (mCons (mLen (mSq (mIx (mSq (mVar 1)) (mVar 4)))) mNil)) (gNm 5) mYes (mCall c_over (mCons (mIx (mSq (mIx (mSq (mVar 2)) (mVar 4))) (mVar 5)) (mCons (mIx (mSq (mIx (mSq (mVar 1)) (mVar 4))) (mVar 5)) mNil))))))))) (mRet (mTupO (mOwn 3)))))
theorem k_tilted {k : Nat} {fs c_over : FS} (h : Has K mg "tilted" 31) (Z : Bi mg) (C_over : CalD P w K mg base "over" k c_over)  (len : ∀ ds Q, fs ds Q → ds.length = 3)
    (pure : ∀ ds Q, fs ds Q → b_tilted c_over { nx := fun _ => Q .non, rt := Q } (startD N_tilted ds)) : CalD P w K mg base "tilted" (k + 1) fs := by
  obtain ⟨f, fd, F, hm⟩ := h
  exact ⟨f, fd, ["tree", "chances", "weights"], fnD (m := b_tilted c_over) F S_tilted len (fun cdv A outer s H E hr => (dss_cons (ds_setF (i := 3) S_tilted.nd rfl (by first | exact Or.inl rfl | exact Or.inr rfl) (df_lst da_nil)) (dss_cons (ds_for PassesOwn.never rfl (di_range1 Z.range (da_cons (de_len Z.len (dq_of (de_var (pv 1)))) da_nil)) (dg_name (pg_name (i := 4) S_tilted.nd rfl (by first | exact Or.inl rfl | exact Or.inr rfl))) (dss_one (ds_app (pv 3) (de_tupO Z.tuple (dq_of (de_fz (df_lc (own := [("j", 5)]) rfl S_tilted.nd (di_range1 Z.range (da_cons (de_len Z.len (dq_of (de_ix (dq_of (de_var (pv 1))) (de_var (pv 4))))) da_nil)) (blkOk_by (by kernel_rfl)) (tgok_name (by decide)) (fun _ _ _ _ _ => (dg_name (pg_name (i := 5) S_tilted.nd rfl (by first | exact Or.inl rfl | exact Or.inr rfl)))) (fun _ _ _ _ _ => dts_nil) (fun _ _ _ _ _ => (de_call C_over hr (da_cons (de_ix (dq_of (de_ix (dq_of (de_var (pv 2))) (de_var (pv 4)))) (de_var (pv 5))) (da_cons (de_ix (dq_of (de_ix (dq_of (de_var (pv 1))) (de_var (pv 4)))) (de_var (pv 5))) da_nil))))))))))) (dss_one (ds_ret (de_tupO Z.tuple (dq_own (pv 3)))))))) pure, hm, F.kp, F.bindsN fun _ _ _ _ _ _ us hl => match us, hl with | [_, _, _], _ => rfl⟩
abbrev N_share_of : List Str := ["tree", "chances", "nodes", "k"]
theorem S_share_of : FnScope N_share_of ["tree", "chances", "nodes"] (defScope (top 32)) := ⟨rfl, rfl, rfl, by decide +kernel, rfl, by decide +kernel, by decide +kernel⟩
def b_share_of (c_total : FS) (c_chance : FS) : SD := (mRet (mCall c_total (mCons (mFz (mLc [3] (mSeqI (mSq (mVar 2))) (gNm 3) mYes (mCall c_chance (mCons (mVar 0) (mCons (mVar 1) (mCons (mVar 3) mNil)))))) mNil)))
theorem k_share_of {k : Nat} {fs c_total c_chance : FS} (h : Has K mg "share_of" 32) (Z : Bi mg) (C_total : CalD P w K mg base "total" k c_total) (C_chance : CalD P w K mg base "chance" k c_chance)  (len : ∀ ds Q, fs ds Q → ds.length = 3)
    (pure : ∀ ds Q, fs ds Q → b_share_of c_total c_chance { nx := fun _ => Q .non, rt := Q } (startD N_share_of ds)) : CalD P w K mg base "share_of" (k + 1) fs := by
  obtain ⟨f, fd, F, hm⟩ := h
  exact ⟨f, fd, ["tree", "chances", "nodes"], fnD (m := b_share_of c_total c_chance) F S_share_of len (fun cdv A outer s H E hr => (dss_one (ds_ret (de_call C_total hr (da_cons (de_fz (df_lc (own := [("k", 3)]) rfl S_share_of.nd (di_seq (dq_of (de_var (pv 2)))) (blkOk_by (by kernel_rfl)) (tgok_name (by decide)) (fun _ _ _ _ _ => (dg_name (pg_name (i := 3) S_share_of.nd rfl (by first | exact Or.inl rfl | exact Or.inr rfl)))) (fun _ _ _ _ _ => dts_nil) (fun _ _ _ _ _ => (de_call C_chance hr (da_cons (de_var (pv 0)) (da_cons (de_var (pv 1)) (da_cons (de_var (pv 3)) da_nil))))))) da_nil))))) pure, hm, F.kp, F.bindsN fun _ _ _ _ _ _ us hl => match us, hl with | [_, _, _], _ => rfl⟩
abbrev N__law_fr : List Str := ["above", "below", "one", "other", "turn"]
theorem S__law_fr : FnScope N__law_fr ["above", "below"] (defScope (top 36)) := ⟨rfl, rfl, rfl, by decide +kernel, rfl, by decide +kernel, by decide +kernel⟩
def b__law_fr  : SD := (mSeq (mIfS (mTst (mOp (oI0 fun i j => .bl (decide (i < j))) (mVar 1) (mC (.int 0)))) (mPar 0 1 (mCons (mOp (oI0 fun i j => .int (i - j)) (mC (.int 0)) (mVar 0)) (mCons (mOp (oI0 fun i j => .int (i - j)) (mC (.int 0)) (mVar 1)) mNil))) mNext) (mSeq (mPar 2 3 (mCons (mCB cAbs (mCons (mVar 0) mNil)) (mCons (mVar 1) mNil))) (mSeq (mFor (mRange1 (mCons (mC (.int 6000)) mNil)) (gNm 4) (mSeq (mIfS (mTst (mOp oEq (mVar 3) (mC (.int 0)))) mBreak mNext) (mPar 2 3 (mCons (mVar 3) (mCons (mOp (oI (fun _ j => 0 < j) fun i j => .int (i % j)) (mCB cInt (mCons (mVar 2) mNil)) (mVar 3)) mNil))))) (mRet (mTup (mCons (mOp (oI CDivW fun i j => .int (i / j)) (mVar 0) (mVar 2)) (mCons (mOp (oI CDivW fun i j => .int (i / j)) (mVar 1) (mVar 2)) mNil)))))))
theorem k__law_fr {k : Nat} {fs  : FS} (h : Has K mg "_law_fr" 36) (Z : Bi mg)   (len : ∀ ds Q, fs ds Q → ds.length = 2)
    (pure : ∀ ds Q, fs ds Q → b__law_fr  { nx := fun _ => Q .non, rt := Q } (startD N__law_fr ds)) : CalD P w K mg base "_law_fr" (k + 1) fs := by
  obtain ⟨f, fd, F, hm⟩ := h
  exact ⟨f, fd, ["above", "below"], fnD (m := b__law_fr ) F S__law_fr len (fun cdv A outer s H E hr => (dss_cons (ds_if (dt_lt (de_var (pv 1)) de_int) (dss_one (ds_par (i := 0) (j := 1) rfl S__law_fr.nd rfl rfl (by decide) rfl rfl (da_cons (de_sub de_int (de_var (pv 0))) (da_cons (de_sub de_int (de_var (pv 1))) da_nil)))) dss_nil) (dss_cons (ds_par (i := 2) (j := 3) rfl S__law_fr.nd rfl rfl (by decide) rfl rfl (da_cons (de_abs Z.abs (da_cons (de_var (pv 0)) da_nil)) (da_cons (de_var (pv 1)) da_nil))) (dss_cons (ds_for PassesOwn.never rfl (di_range1 Z.range (da_cons de_int da_nil)) (dg_name (pg_name (i := 4) S__law_fr.nd rfl (by first | exact Or.inl rfl | exact Or.inr rfl))) (dss_cons (ds_if (dt_eq hr.units (de_var (pv 3)) de_int) (dss_one ds_break) dss_nil) (dss_one (ds_par (i := 2) (j := 3) rfl S__law_fr.nd rfl rfl (by decide) rfl rfl (da_cons (de_var (pv 3)) (da_cons (de_mod (de_toInt Z.int (da_cons (de_var (pv 2)) da_nil)) (de_var (pv 3))) da_nil)))))) (dss_one (ds_ret (de_tup (da_cons (de_fdiv (de_var (pv 0)) (de_var (pv 2))) (da_cons (de_fdiv (de_var (pv 1)) (de_var (pv 2))) da_nil))))))))) pure, hm, F.kp, F.bindsN fun _ _ _ _ _ _ us hl => match us, hl with | [_, _], _ => rfl⟩
abbrev N__law_add : List Str := ["one", "other"]
theorem S__law_add : FnScope N__law_add ["one", "other"] (defScope (top 37)) := ⟨rfl, rfl, rfl, by decide +kernel, rfl, by decide +kernel, by decide +kernel⟩
def b__law_add (c__law_fr : FS) : SD := (mRet (mCall c__law_fr (mCons (mOp (oI0 fun i j => .int (i + j)) (mOp (oI CMulW fun i j => .int (i * j)) (mIx (mSq (mVar 0)) (mC (.int 0))) (mIx (mSq (mVar 1)) (mC (.int 1)))) (mOp (oI CMulW fun i j => .int (i * j)) (mIx (mSq (mVar 1)) (mC (.int 0))) (mIx (mSq (mVar 0)) (mC (.int 1))))) (mCons (mOp (oI CMulW fun i j => .int (i * j)) (mIx (mSq (mVar 0)) (mC (.int 1))) (mIx (mSq (mVar 1)) (mC (.int 1)))) mNil))))
theorem k__law_add {k : Nat} {fs c__law_fr : FS} (h : Has K mg "_law_add" 37) (Z : Bi mg) (C__law_fr : CalD P w K mg base "_law_fr" k c__law_fr)  (len : ∀ ds Q, fs ds Q → ds.length = 2)
    (pure : ∀ ds Q, fs ds Q → b__law_add c__law_fr { nx := fun _ => Q .non, rt := Q } (startD N__law_add ds)) : CalD P w K mg base "_law_add" (k + 1) fs := by
  obtain ⟨f, fd, F, hm⟩ := h
  exact ⟨f, fd, ["one", "other"], fnD (m := b__law_add c__law_fr) F S__law_add len (fun cdv A outer s H E hr => (dss_one (ds_ret (de_call C__law_fr hr (da_cons (de_add (de_mul (de_ix (dq_of (de_var (pv 0))) de_int) (de_ix (dq_of (de_var (pv 1))) de_int)) (de_mul (de_ix (dq_of (de_var (pv 1))) de_int) (de_ix (dq_of (de_var (pv 0))) de_int))) (da_cons (de_mul (de_ix (dq_of (de_var (pv 0))) de_int) (de_ix (dq_of (de_var (pv 1))) de_int)) da_nil)))))) pure, hm, F.kp, F.bindsN fun _ _ _ _ _ _ us hl => match us, hl with | [_, _], _ => rfl⟩
abbrev N__law_mul : List Str := ["one", "other"]
theorem S__law_mul : FnScope N__law_mul ["one", "other"] (defScope (top 38)) := ⟨rfl, rfl, rfl, by decide +kernel, rfl, by decide +kernel, by decide +kernel⟩
def b__law_mul (c__law_fr : FS) : SD := (mRet (mCall c__law_fr (mCons (mOp (oI CMulW fun i j => .int (i * j)) (mIx (mSq (mVar 0)) (mC (.int 0))) (mIx (mSq (mVar 1)) (mC (.int 0)))) (mCons (mOp (oI CMulW fun i j => .int (i * j)) (mIx (mSq (mVar 0)) (mC (.int 1))) (mIx (mSq (mVar 1)) (mC (.int 1)))) mNil))))
theorem k__law_mul {k : Nat} {fs c__law_fr : FS} (h : Has K mg "_law_mul" 38) (Z : Bi mg) (C__law_fr : CalD P w K mg base "_law_fr" k c__law_fr)  (len : ∀ ds Q, fs ds Q → ds.length = 2)
    (pure : ∀ ds Q, fs ds Q → b__law_mul c__law_fr { nx := fun _ => Q .non, rt := Q } (startD N__law_mul ds)) : CalD P w K mg base "_law_mul" (k + 1) fs := by
  obtain ⟨f, fd, F, hm⟩ := h
  exact ⟨f, fd, ["one", "other"], fnD (m := b__law_mul c__law_fr) F S__law_mul len (fun cdv A outer s H E hr => (dss_one (ds_ret (de_call C__law_fr hr (da_cons (de_mul (de_ix (dq_of (de_var (pv 0))) de_int) (de_ix (dq_of (de_var (pv 1))) de_int)) (da_cons (de_mul (de_ix (dq_of (de_var (pv 0))) de_int) (de_ix (dq_of (de_var (pv 1))) de_int)) da_nil)))))) pure, hm, F.kp, F.bindsN fun _ _ _ _ _ _ us hl => match us, hl with | [_, _], _ => rfl⟩
abbrev N__law_sub : List Str := ["one", "other"]
theorem S__law_sub : FnScope N__law_sub ["one", "other"] (defScope (top 39)) := ⟨rfl, rfl, rfl, by decide +kernel, rfl, by decide +kernel, by decide +kernel⟩
def b__law_sub (c__law_add : FS) : SD := (mRet (mCall c__law_add (mCons (mVar 0) (mCons (mTup (mCons (mOp (oI0 fun i j => .int (i - j)) (mC (.int 0)) (mIx (mSq (mVar 1)) (mC (.int 0)))) (mCons (mIx (mSq (mVar 1)) (mC (.int 1))) mNil))) mNil))))
theorem k__law_sub {k : Nat} {fs c__law_add : FS} (h : Has K mg "_law_sub" 39) (Z : Bi mg) (C__law_add : CalD P w K mg base "_law_add" k c__law_add)  (len : ∀ ds Q, fs ds Q → ds.length = 2)
    (pure : ∀ ds Q, fs ds Q → b__law_sub c__law_add { nx := fun _ => Q .non, rt := Q } (startD N__law_sub ds)) : CalD P w K mg base "_law_sub" (k + 1) fs := by
  obtain ⟨f, fd, F, hm⟩ := h
  exact ⟨f, fd, ["one", "other"], fnD (m := b__law_sub c__law_add) F S__law_sub len (fun cdv A outer s H E hr => (dss_one (ds_ret (de_call C__law_add hr (da_cons (de_var (pv 0)) (da_cons (de_tup (da_cons (de_sub de_int (de_ix (dq_of (de_var (pv 1))) de_int)) (da_cons (de_ix (dq_of (de_var (pv 1))) de_int) da_nil))) da_nil)))))) pure, hm, F.kp, F.bindsN fun _ _ _ _ _ _ us hl => match us, hl with | [_, _], _ => rfl⟩
abbrev N__law_over : List Str := ["one", "other"]
theorem S__law_over : FnScope N__law_over ["one", "other"] (defScope (top 40)) := ⟨rfl, rfl, rfl, by decide +kernel, rfl, by decide +kernel, by decide +kernel⟩
def b__law_over (c__law_fr : FS) : SD := (mRet (mCall c__law_fr (mCons (mOp (oI CMulW fun i j => .int (i * j)) (mIx (mSq (mVar 0)) (mC (.int 0))) (mIx (mSq (mVar 1)) (mC (.int 1)))) (mCons (mOp (oI CMulW fun i j => .int (i * j)) (mIx (mSq (mVar 0)) (mC (.int 1))) (mIx (mSq (mVar 1)) (mC (.int 0)))) mNil))))
theorem k__law_over {k : Nat} {fs c__law_fr : FS} (h : Has K mg "_law_over" 40) (Z : Bi mg) (C__law_fr : CalD P w K mg base "_law_fr" k c__law_fr)  (len : ∀ ds Q, fs ds Q → ds.length = 2)
    (pure : ∀ ds Q, fs ds Q → b__law_over c__law_fr { nx := fun _ => Q .non, rt := Q } (startD N__law_over ds)) : CalD P w K mg base "_law_over" (k + 1) fs := by
  obtain ⟨f, fd, F, hm⟩ := h
  exact ⟨f, fd, ["one", "other"], fnD (m := b__law_over c__law_fr) F S__law_over len (fun cdv A outer s H E hr => (dss_one (ds_ret (de_call C__law_fr hr (da_cons (de_mul (de_ix (dq_of (de_var (pv 0))) de_int) (de_ix (dq_of (de_var (pv 1))) de_int)) (da_cons (de_mul (de_ix (dq_of (de_var (pv 0))) de_int) (de_ix (dq_of (de_var (pv 1))) de_int)) da_nil)))))) pure, hm, F.kp, F.bindsN fun _ _ _ _ _ _ us hl => match us, hl with | [_, _], _ => rfl⟩
abbrev N__law_less : List Str := ["one", "other"]
theorem S__law_less : FnScope N__law_less ["one", "other"] (defScope (top 41)) := ⟨rfl, rfl, rfl, by decide +kernel, rfl, by decide +kernel, by decide +kernel⟩
def b__law_less  : SD := (mRet (mOp (oI0 fun i j => .bl (decide (i < j))) (mOp (oI CMulW fun i j => .int (i * j)) (mIx (mSq (mVar 0)) (mC (.int 0))) (mIx (mSq (mVar 1)) (mC (.int 1)))) (mOp (oI CMulW fun i j => .int (i * j)) (mIx (mSq (mVar 1)) (mC (.int 0))) (mIx (mSq (mVar 0)) (mC (.int 1))))))
theorem k__law_less {k : Nat} {fs  : FS} (h : Has K mg "_law_less" 41) (Z : Bi mg)   (len : ∀ ds Q, fs ds Q → ds.length = 2)
    (pure : ∀ ds Q, fs ds Q → b__law_less  { nx := fun _ => Q .non, rt := Q } (startD N__law_less ds)) : CalD P w K mg base "_law_less" (k + 1) fs := by
  obtain ⟨f, fd, F, hm⟩ := h
  exact ⟨f, fd, ["one", "other"], fnD (m := b__law_less ) F S__law_less len (fun cdv A outer s H E hr => (dss_one (ds_ret (de_lt (de_mul (de_ix (dq_of (de_var (pv 0))) de_int) (de_ix (dq_of (de_var (pv 1))) de_int)) (de_mul (de_ix (dq_of (de_var (pv 1))) de_int) (de_ix (dq_of (de_var (pv 0))) de_int)))))) pure, hm, F.kp, F.bindsN fun _ _ _ _ _ _ us hl => match us, hl with | [_, _], _ => rfl⟩
abbrev N__law_sum : List Str := ["row", "made", "one"]
theorem S__law_sum : FnScope N__law_sum ["row"] (defScope (top 42)) := ⟨rfl, rfl, rfl, by decide +kernel, rfl, by decide +kernel, by decide +kernel⟩
def b__law_sum (c__law_add : FS) : SD := (mSeq (mSet 1 (mTup (mCons (mC (.int 0)) (mCons (mC (.int 1)) mNil)))) (mSeq (mFor (mSeqI (mSq (mVar 0))) (gNm 2) (mSet 1 (mCall c__law_add (mCons (mVar 1) (mCons (mVar 2) mNil))))) (mRet (mVar 1))))
theorem k__law_sum {k : Nat} {fs c__law_add : FS} (h : Has K mg "_law_sum" 42) (Z : Bi mg) (C__law_add : CalD P w K mg base "_law_add" k c__law_add)  (len : ∀ ds Q, fs ds Q → ds.length = 1)
    (pure : ∀ ds Q, fs ds Q → b__law_sum c__law_add { nx := fun _ => Q .non, rt := Q } (startD N__law_sum ds)) : CalD P w K mg base "_law_sum" (k + 1) fs := by
  obtain ⟨f, fd, F, hm⟩ := h
  exact ⟨f, fd, ["row"], fnD (m := b__law_sum c__law_add) F S__law_sum len (fun cdv A outer s H E hr => (dss_cons (ds_set (i := 1) S__law_sum.nd rfl (by first | exact Or.inl rfl | exact Or.inr rfl) (de_tup (da_cons de_int (da_cons de_int da_nil)))) (dss_cons (ds_for PassesOwn.never rfl (di_seq (dq_of (de_var (pv 0)))) (dg_name (pg_name (i := 2) S__law_sum.nd rfl (by first | exact Or.inl rfl | exact Or.inr rfl))) (dss_one (ds_set (i := 1) S__law_sum.nd rfl (by first | exact Or.inl rfl | exact Or.inr rfl) (de_call C__law_add hr (da_cons (de_var (pv 1)) (da_cons (de_var (pv 2)) da_nil)))))) (dss_one (ds_ret (de_var (pv 1))))))) pure, hm, F.kp, F.bindsN fun _ _ _ _ _ _ us hl => match us, hl with | [_], _ => rfl⟩
abbrev N__law_dot : List Str := ["one", "other", "k"]
theorem S__law_dot : FnScope N__law_dot ["one", "other"] (defScope (top 43)) := ⟨rfl, rfl, rfl, by decide +kernel, rfl, by decide +kernel, by decide +kernel⟩
def b__law_dot (c__law_sum : FS) (c__law_mul : FS) : SD := (mRet (mCall c__law_sum (mCons (mFz (mLc [2] (mRange1 (mCons (mLen (mSq (mVar 0))) mNil)) (gNm 2) mYes (mCall c__law_mul (mCons (mIx (mSq (mVar 0)) (mVar 2)) (mCons (mIx (mSq (mVar 1)) (mVar 2)) mNil))))) mNil)))
theorem k__law_dot {k : Nat} {fs c__law_sum c__law_mul : FS} (h : Has K mg "_law_dot" 43) (Z : Bi mg) (C__law_sum : CalD P w K mg base "_law_sum" k c__law_sum) (C__law_mul : CalD P w K mg base "_law_mul" k c__law_mul)  (len : ∀ ds Q, fs ds Q → ds.length = 2)
    (pure : ∀ ds Q, fs ds Q → b__law_dot c__law_sum c__law_mul { nx := fun _ => Q .non, rt := Q } (startD N__law_dot ds)) : CalD P w K mg base "_law_dot" (k + 1) fs := by
  obtain ⟨f, fd, F, hm⟩ := h
  exact ⟨f, fd, ["one", "other"], fnD (m := b__law_dot c__law_sum c__law_mul) F S__law_dot len (fun cdv A outer s H E hr => (dss_one (ds_ret (de_call C__law_sum hr (da_cons (de_fz (df_lc (own := [("k", 2)]) rfl S__law_dot.nd (di_range1 Z.range (da_cons (de_len Z.len (dq_of (de_var (pv 0)))) da_nil)) (blkOk_by (by kernel_rfl)) (tgok_name (by decide)) (fun _ _ _ _ _ => (dg_name (pg_name (i := 2) S__law_dot.nd rfl (by first | exact Or.inl rfl | exact Or.inr rfl)))) (fun _ _ _ _ _ => dts_nil) (fun _ _ _ _ _ => (de_call C__law_mul hr (da_cons (de_ix (dq_of (de_var (pv 0))) (de_var (pv 2))) (da_cons (de_ix (dq_of (de_var (pv 1))) (de_var (pv 2))) da_nil)))))) da_nil))))) pure, hm, F.kp, F.bindsN fun _ _ _ _ _ _ us hl => match us, hl with | [_, _], _ => rfl⟩
abbrev N__law_most : List Str := ["row", "found", "one"]
theorem S__law_most : FnScope N__law_most ["row"] (defScope (top 44)) := ⟨rfl, rfl, rfl, by decide +kernel, rfl, by decide +kernel, by decide +kernel⟩
def b__law_most (c__law_less : FS) : SD := (mSeq (mSet 1 (mIx (mSq (mVar 0)) (mC (.int 0)))) (mSeq (mFor (mSeqI (mSq (mVar 0))) (gNm 2) (mSet 1 (mIf (mTst (mCall c__law_less (mCons (mVar 1) (mCons (mVar 2) mNil)))) (mVar 2) (mVar 1)))) (mRet (mVar 1))))
theorem k__law_most {k : Nat} {fs c__law_less : FS} (h : Has K mg "_law_most" 44) (Z : Bi mg) (C__law_less : CalD P w K mg base "_law_less" k c__law_less)  (len : ∀ ds Q, fs ds Q → ds.length = 1)
    (pure : ∀ ds Q, fs ds Q → b__law_most c__law_less { nx := fun _ => Q .non, rt := Q } (startD N__law_most ds)) : CalD P w K mg base "_law_most" (k + 1) fs := by
  obtain ⟨f, fd, F, hm⟩ := h
  exact ⟨f, fd, ["row"], fnD (m := b__law_most c__law_less) F S__law_most len (fun cdv A outer s H E hr => (dss_cons (ds_set (i := 1) S__law_most.nd rfl (by first | exact Or.inl rfl | exact Or.inr rfl) (de_ix (dq_of (de_var (pv 0))) de_int)) (dss_cons (ds_for PassesOwn.never rfl (di_seq (dq_of (de_var (pv 0)))) (dg_name (pg_name (i := 2) S__law_most.nd rfl (by first | exact Or.inl rfl | exact Or.inr rfl))) (dss_one (ds_set (i := 1) S__law_most.nd rfl (by first | exact Or.inl rfl | exact Or.inr rfl) (de_if (dt_val (de_call C__law_less hr (da_cons (de_var (pv 1)) (da_cons (de_var (pv 2)) da_nil)))) (de_var (pv 2)) (de_var (pv 1)))))) (dss_one (ds_ret (de_var (pv 1))))))) pure, hm, F.kp, F.bindsN fun _ _ _ _ _ _ us hl => match us, hl with | [_], _ => rfl⟩
abbrev N__law_least : List Str := ["row", "found", "one"]
theorem S__law_least : FnScope N__law_least ["row"] (defScope (top 45)) := ⟨rfl, rfl, rfl, by decide +kernel, rfl, by decide +kernel, by decide +kernel⟩
def b__law_least (c__law_less : FS) : SD := (mSeq (mSet 1 (mIx (mSq (mVar 0)) (mC (.int 0)))) (mSeq (mFor (mSeqI (mSq (mVar 0))) (gNm 2) (mSet 1 (mIf (mTst (mCall c__law_less (mCons (mVar 2) (mCons (mVar 1) mNil)))) (mVar 2) (mVar 1)))) (mRet (mVar 1))))
theorem k__law_least {k : Nat} {fs c__law_less : FS} (h : Has K mg "_law_least" 45) (Z : Bi mg) (C__law_less : CalD P w K mg base "_law_less" k c__law_less)  (len : ∀ ds Q, fs ds Q → ds.length = 1)
    (pure : ∀ ds Q, fs ds Q → b__law_least c__law_less { nx := fun _ => Q .non, rt := Q } (startD N__law_least ds)) : CalD P w K mg base "_law_least" (k + 1) fs := by
  obtain ⟨f, fd, F, hm⟩ := h
  exact ⟨f, fd, ["row"], fnD (m := b__law_least c__law_less) F S__law_least len (fun cdv A outer s H E hr => (dss_cons (ds_set (i := 1) S__law_least.nd rfl (by first | exact Or.inl rfl | exact Or.inr rfl) (de_ix (dq_of (de_var (pv 0))) de_int)) (dss_cons (ds_for PassesOwn.never rfl (di_seq (dq_of (de_var (pv 0)))) (dg_name (pg_name (i := 2) S__law_least.nd rfl (by first | exact Or.inl rfl | exact Or.inr rfl))) (dss_one (ds_set (i := 1) S__law_least.nd rfl (by first | exact Or.inl rfl | exact Or.inr rfl) (de_if (dt_val (de_call C__law_less hr (da_cons (de_var (pv 2)) (da_cons (de_var (pv 1)) da_nil)))) (de_var (pv 2)) (de_var (pv 1)))))) (dss_one (ds_ret (de_var (pv 1))))))) pure, hm, F.kp, F.bindsN fun _ _ _ _ _ _ us hl => match us, hl with | [_], _ => rfl⟩
abbrev N__law_line_house : List Str := ["state", "most", "size", "nodes", "moment", "k", "able", "j", "node", "back", "ahead_v"]
theorem S__law_line_house : FnScope N__law_line_house ["state", "most"] (defScope (top 47)) := ⟨rfl, rfl, rfl, by decide +kernel, rfl, by decide +kernel, by decide +kernel⟩
def b__law_line_house (c__law_take : FS) (c__law_price : FS) : SD := (mSeq (mSet 2 (mOp (oI0 fun i j => .int (i + j)) (mC (.int 2)) (mCall c__law_take (mCons (mVar 0) (mCons (mOp (oI0 fun i j => .int (i - j)) (mVar 1) (mC (.int 1))) mNil))))) (mSeq (mParOO 3 4 (mLst (mCons (mTup (mCons (mC .non) (mCons (mTup (mCons (mCall c__law_price (mCons (mVar 0) mNil)) mNil)) mNil))) mNil)) (mLst (mCons (mC (.int 0)) mNil))) (mSeq (mFor (mRange2 (mCons (mC (.int 1)) (mCons (mVar 2) mNil))) (gNm 5) (mSeq (mSet 6 (mFz (mLc [7] (mRange1 (mCons (mVar 5) mNil)) (gNm 7) (mAnd (mTst (mOp (oI0 fun i j => .bl (decide (i < j))) (mLen (mSq (mFz (mLc [8] (mSeqI (mOwn 3)) (gNm 8) (mTst (mOp oEq (mIx (mSq (mVar 8)) (mC (.int 0))) (mVar 7))) (mVar 8))))) (mC (.int 3)))) (mTst (mOp (oI0 fun i j => .bl (decide (i < j))) (mIx (mOwn 4) (mVar 7)) (mC (.int 3))))) (mVar 7)))) (mSeq (mSet 9 (mIx (mSq (mVar 6)) (mCall c__law_take (mCons (mVar 0) (mCons (mLen (mSq (mVar 6))) mNil))))) (mSeq (mApp 3 (mTup (mCons (mVar 9) (mCons (mTup (mCons (mCall c__law_price (mCons (mVar 0) mNil)) mNil)) mNil)))) (mApp 4 (mOp (oI0 fun i j => .int (i + j)) (mIx (mOwn 4) (mVar 9)) (mC (.int 1)))))))) (mSeq (mSet 10 (mFz (mLc [5] (mRange1 (mCons (mVar 2) mNil)) (gNm 5) mYes (mFz (mLc [7] (mRange1 (mCons (mVar 2) mNil)) (gNm 7) (mTst (mOp oEq (mIx (mSq (mIx (mOwn 3) (mVar 7))) (mC (.int 0))) (mVar 5))) (mVar 7)))))) (mGive 4 (mRet (mDisp [("things", (mTup (mCons (mC (.str "coin")) mNil))), ("nodes", (mTupO (mOwn 3))), ("moment", (mVar 4)), ("ahead", (mVar 10))])))))))
theorem k__law_line_house {k : Nat} {fs c__law_take c__law_price : FS} (h : Has K mg "_law_line_house" 47) (Z : Bi mg) (C__law_take : CalD P w K mg base "_law_take" k c__law_take) (C__law_price : CalD P w K mg base "_law_price" k c__law_price)  (len : ∀ ds Q, fs ds Q → ds.length = 2)
    (pure : ∀ ds Q, fs ds Q → b__law_line_house c__law_take c__law_price { nx := fun _ => Q .non, rt := Q } (startD N__law_line_house ds)) : CalD P w K mg base "_law_line_house" (k + 1) fs := by
  obtain ⟨f, fd, F, hm⟩ := h
  exact ⟨f, fd, ["state", "most"], fnD (m := b__law_line_house c__law_take c__law_price) F S__law_line_house len (fun cdv A outer s H E hr => (dss_cons (ds_set (i := 2) S__law_line_house.nd rfl (by first | exact Or.inl rfl | exact Or.inr rfl) (de_add de_int (de_call C__law_take hr (da_cons (de_var (pv 0)) (da_cons (de_sub (de_var (pv 1)) de_int) da_nil))))) (dss_cons (ds_asgOO rfl (pg_name (i := 3) S__law_line_house.nd rfl (by first | exact Or.inl rfl | exact Or.inr rfl)) (pg_name (i := 4) S__law_line_house.nd rfl (by first | exact Or.inl rfl | exact Or.inr rfl)) (df_lst (da_cons (de_tup (da_cons de_non (da_cons (de_tup (da_cons (de_call C__law_price hr (da_cons (de_var (pv 0)) da_nil)) da_nil)) da_nil))) da_nil)) (df_lst (da_cons de_int da_nil))) (dss_cons (ds_for PassesOwn.never rfl (di_range2 Z.range (da_cons de_int (da_cons (de_var (pv 2)) da_nil))) (dg_name (pg_name (i := 5) S__law_line_house.nd rfl (by first | exact Or.inl rfl | exact Or.inr rfl))) (dss_cons (ds_lc (ps_lcS (i := 6) (own := [("j", 7)]) rfl S__law_line_house.nd rfl rfl (sw_true rfl rfl rfl (by decide +kernel)) (di_range1 Z.range (da_cons (de_var (pv 5)) da_nil)) (blkOk_by (by kernel_rfl)) (tgok_name (by decide)) (fun _ _ _ _ _ => (dg_name (pg_name (i := 7) S__law_line_house.nd rfl (by first | exact Or.inl rfl | exact Or.inr rfl)))) (fun _ _ _ _ _ => (dts_one (dt_w (dw_and (dt_lt (de_len Z.len (dq_of (de_fz (df_lc (own := [("node", 8)]) rfl S__law_line_house.nd (di_seq (dq_own (pv 3))) (blkOk_by (by kernel_rfl)) (tgok_name (by decide)) (fun _ _ _ _ _ => (dg_name (pg_name (i := 8) S__law_line_house.nd rfl (by first | exact Or.inl rfl | exact Or.inr rfl)))) (fun _ _ _ _ _ => (dts_one (dt_eq hr.units (de_ix (dq_of (de_var (pv 8))) de_int) (de_var (pv 7))))) (fun _ _ _ _ _ => (de_var (pv 8))))))) de_int) (dw_and1 (dt_lt (de_ix (dq_own (pv 4)) (de_var (pv 7))) de_int)))))) (fun _ _ _ _ _ => (de_var (pv 7))))) (dss_cons (ds_set (i := 9) S__law_line_house.nd rfl (by first | exact Or.inl rfl | exact Or.inr rfl) (de_ix (dq_of (de_var (pv 6))) (de_call C__law_take hr (da_cons (de_var (pv 0)) (da_cons (de_len Z.len (dq_of (de_var (pv 6)))) da_nil))))) (dss_cons (ds_app (pv 3) (de_tup (da_cons (de_var (pv 9)) (da_cons (de_tup (da_cons (de_call C__law_price hr (da_cons (de_var (pv 0)) da_nil)) da_nil)) da_nil)))) (dss_one (ds_app (pv 4) (de_add (de_ix (dq_own (pv 4)) (de_var (pv 9))) de_int))))))) (dss_cons (ds_lc (ps_lcS (i := 10) (own := [("k", 5)]) rfl S__law_line_house.nd rfl rfl (sw_true rfl rfl rfl (by decide +kernel)) (di_range1 Z.range (da_cons (de_var (pv 2)) da_nil)) (blkOk_by (by kernel_rfl)) (tgok_name (by decide)) (fun _ _ _ _ _ => (dg_name (pg_name (i := 5) S__law_line_house.nd rfl (by first | exact Or.inl rfl | exact Or.inr rfl)))) (fun _ _ _ _ _ => dts_nil) (fun _ _ _ _ _ => (de_fz (df_lc (own := [("j", 7)]) rfl S__law_line_house.nd (di_range1 Z.range (da_cons (de_var (pv 2)) da_nil)) (blkOk_by (by kernel_rfl)) (tgok_name (by decide)) (fun _ _ _ _ _ => (dg_name (pg_name (i := 7) S__law_line_house.nd rfl (by first | exact Or.inl rfl | exact Or.inr rfl)))) (fun _ _ _ _ _ => (dts_one (dt_eq hr.units (de_ix (dq_of (de_ix (dq_own (pv 3)) (de_var (pv 7)))) de_int) (de_var (pv 5))))) (fun _ _ _ _ _ => (de_var (pv 7)))))))) (dss_give 4 (dss_one (ds_ret (de_disp (dpr_cons (de_tup (da_cons de_str da_nil)) (dpr_cons (de_tupO Z.tuple (dq_own (pv 3))) (dpr_cons (de_var (pv 4)) (dpr_cons (de_var (pv 10)) dpr_nil))))))))))))) pure, hm, F.kp, F.bindsN fun _ _ _ _ _ _ us hl => match us, hl with | [_, _], _ => rfl⟩
abbrev N__law_price : List Str := ["state"]
theorem S__law_price : FnScope N__law_price ["state"] (defScope (top 48)) := ⟨rfl, rfl, rfl, by decide +kernel, rfl, by decide +kernel, by decide +kernel⟩
def b__law_price (c__law_fr : FS) (c__law_take : FS) : SD := (mRet (mCall c__law_fr (mCons (mOp (oI0 fun i j => .int (i + j)) (mC (.int 1)) (mCall c__law_take (mCons (mVar 0) (mCons (mC (.int 8)) mNil)))) (mCons (mOp (oI0 fun i j => .int (i + j)) (mC (.int 1)) (mCall c__law_take (mCons (mVar 0) (mCons (mC (.int 3)) mNil)))) mNil))))
theorem k__law_price {k : Nat} {fs c__law_fr c__law_take : FS} (h : Has K mg "_law_price" 48) (Z : Bi mg) (C__law_fr : CalD P w K mg base "_law_fr" k c__law_fr) (C__law_take : CalD P w K mg base "_law_take" k c__law_take)  (len : ∀ ds Q, fs ds Q → ds.length = 1)
    (pure : ∀ ds Q, fs ds Q → b__law_price c__law_fr c__law_take { nx := fun _ => Q .non, rt := Q } (startD N__law_price ds)) : CalD P w K mg base "_law_price" (k + 1) fs := by
  obtain ⟨f, fd, F, hm⟩ := h
  exact ⟨f, fd, ["state"], fnD (m := b__law_price c__law_fr c__law_take) F S__law_price len (fun cdv A outer s H E hr => (dss_one (ds_ret (de_call C__law_fr hr (da_cons (de_add de_int (de_call C__law_take hr (da_cons (de_var (pv 0)) (da_cons de_int da_nil)))) (da_cons (de_add de_int (de_call C__law_take hr (da_cons (de_var (pv 0)) (da_cons de_int da_nil)))) da_nil)))))) pure, hm, F.kp, F.bindsN fun _ _ _ _ _ _ us hl => match us, hl with | [_], _ => rfl⟩
abbrev N__law_tree_of : List Str := ["house"]
theorem S__law_tree_of : FnScope N__law_tree_of ["house"] (defScope (top 49)) := ⟨rfl, rfl, rfl, by decide +kernel, rfl, by decide +kernel, by decide +kernel⟩
def b__law_tree_of  : SD := (mRet (mTup (mCons (mC (.str "tree")) (mCons (mDGet (mVar 0) (mC (.str "things"))) (mCons (mDGet (mVar 0) (mC (.str "nodes"))) mNil)))))
theorem k__law_tree_of {k : Nat} {fs  : FS} (h : Has K mg "_law_tree_of" 49) (Z : Bi mg)   (len : ∀ ds Q, fs ds Q → ds.length = 1)
    (pure : ∀ ds Q, fs ds Q → b__law_tree_of  { nx := fun _ => Q .non, rt := Q } (startD N__law_tree_of ds)) : CalD P w K mg base "_law_tree_of" (k + 1) fs := by
  obtain ⟨f, fd, F, hm⟩ := h
  exact ⟨f, fd, ["house"], fnD (m := b__law_tree_of ) F S__law_tree_of len (fun cdv A outer s H E hr => (dss_one (ds_ret (de_tup (da_cons de_str (da_cons (de_dget (hu_of hr) (de_var (pv 0)) de_str) (da_cons (de_dget (hu_of hr) (de_var (pv 0)) de_str) da_nil))))))) pure, hm, F.kp, F.bindsN fun _ _ _ _ _ _ us hl => match us, hl with | [_], _ => rfl⟩
abbrev N__law_threshold : List Str := ["values", "chances", "share", "found", "one", "short", "k"]
theorem S__law_threshold : FnScope N__law_threshold ["values", "chances", "share"] (defScope (top 52)) := ⟨rfl, rfl, rfl, by decide +kernel, rfl, by decide +kernel, by decide +kernel⟩
def b__law_threshold (c__law_less : FS) (c__law_add : FS) (c__law_mul : FS) (c__law_sub : FS) (c__law_over : FS) (c__law_most : FS) : SD := (mSeq (mSetOw 3 (mLst mNil)) (mSeq (mFor (mSeqI (mSq (mVar 0))) (gNm 4) (mSeq (mSet 5 (mTup (mCons (mC (.int 0)) (mCons (mC (.int 1)) mNil)))) (mSeq (mFor (mRange1 (mCons (mLen (mSq (mVar 0))) mNil)) (gNm 6) (mIfS (mTst (mCall c__law_less (mCons (mIx (mSq (mVar 0)) (mVar 6)) (mCons (mVar 4) mNil)))) (mSet 5 (mCall c__law_add (mCons (mVar 5) (mCons (mCall c__law_mul (mCons (mIx (mSq (mVar 1)) (mVar 6)) (mCons (mCall c__law_sub (mCons (mVar 4) (mCons (mIx (mSq (mVar 0)) (mVar 6)) mNil))) mNil))) mNil)))) mNext)) (mApp 3 (mCall c__law_sub (mCons (mVar 4) (mCons (mCall c__law_over (mCons (mVar 5) (mCons (mVar 2) mNil))) mNil))))))) (mGive 3 (mRet (mCall c__law_most (mCons (mVar 3) mNil))))))
theorem k__law_threshold {k : Nat} {fs c__law_less c__law_add c__law_mul c__law_sub c__law_over c__law_most : FS} (h : Has K mg "_law_threshold" 52) (Z : Bi mg) (C__law_less : CalD P w K mg base "_law_less" k c__law_less) (C__law_add : CalD P w K mg base "_law_add" k c__law_add) (C__law_mul : CalD P w K mg base "_law_mul" k c__law_mul) (C__law_sub : CalD P w K mg base "_law_sub" k c__law_sub) (C__law_over : CalD P w K mg base "_law_over" k c__law_over) (C__law_most : CalD P w K mg base "_law_most" k c__law_most)  (len : ∀ ds Q, fs ds Q → ds.length = 3)
    (pure : ∀ ds Q, fs ds Q → b__law_threshold c__law_less c__law_add c__law_mul c__law_sub c__law_over c__law_most { nx := fun _ => Q .non, rt := Q } (startD N__law_threshold ds)) : CalD P w K mg base "_law_threshold" (k + 1) fs := by
  obtain ⟨f, fd, F, hm⟩ := h
  exact ⟨f, fd, ["values", "chances", "share"], fnD (m := b__law_threshold c__law_less c__law_add c__law_mul c__law_sub c__law_over c__law_most) F S__law_threshold len (fun cdv A outer s H E hr => (dss_cons (ds_setF (i := 3) S__law_threshold.nd rfl (by first | exact Or.inl rfl | exact Or.inr rfl) (df_lst da_nil)) (dss_cons (ds_for PassesOwn.never rfl (di_seq (dq_of (de_var (pv 0)))) (dg_name (pg_name (i := 4) S__law_threshold.nd rfl (by first | exact Or.inl rfl | exact Or.inr rfl))) (dss_cons (ds_set (i := 5) S__law_threshold.nd rfl (by first | exact Or.inl rfl | exact Or.inr rfl) (de_tup (da_cons de_int (da_cons de_int da_nil)))) (dss_cons (ds_for PassesOwn.never rfl (di_range1 Z.range (da_cons (de_len Z.len (dq_of (de_var (pv 0)))) da_nil)) (dg_name (pg_name (i := 6) S__law_threshold.nd rfl (by first | exact Or.inl rfl | exact Or.inr rfl))) (dss_one (ds_if (dt_val (de_call C__law_less hr (da_cons (de_ix (dq_of (de_var (pv 0))) (de_var (pv 6))) (da_cons (de_var (pv 4)) da_nil)))) (dss_one (ds_set (i := 5) S__law_threshold.nd rfl (by first | exact Or.inl rfl | exact Or.inr rfl) (de_call C__law_add hr (da_cons (de_var (pv 5)) (da_cons (de_call C__law_mul hr (da_cons (de_ix (dq_of (de_var (pv 1))) (de_var (pv 6))) (da_cons (de_call C__law_sub hr (da_cons (de_var (pv 4)) (da_cons (de_ix (dq_of (de_var (pv 0))) (de_var (pv 6))) da_nil))) da_nil))) da_nil))))) dss_nil))) (dss_one (ds_app (pv 3) (de_call C__law_sub hr (da_cons (de_var (pv 4)) (da_cons (de_call C__law_over hr (da_cons (de_var (pv 5)) (da_cons (de_var (pv 2)) da_nil))) da_nil)))))))) (dss_give 3 (dss_one (ds_ret (de_call C__law_most hr (da_cons (de_var (pv 3)) da_nil)))))))) pure, hm, F.kp, F.bindsN fun _ _ _ _ _ _ us hl => match us, hl with | [_, _, _], _ => rfl⟩
abbrev N__law_parts_of : List Str := ["state", "many", "row", "k", "one"]
theorem S__law_parts_of : FnScope N__law_parts_of ["state", "many"] (defScope (top 53)) := ⟨rfl, rfl, rfl, by decide +kernel, rfl, by decide +kernel, by decide +kernel⟩
def b__law_parts_of (c__law_take : FS) (c__law_fr : FS) : SD := (mSeq (mSet 2 (mFz (mLc [3] (mRange1 (mCons (mVar 1) mNil)) (gNm 3) mYes (mOp (oI0 fun i j => .int (i + j)) (mC (.int 1)) (mCall c__law_take (mCons (mVar 0) (mCons (mC (.int 4)) mNil))))))) (mRet (mTupO (mSq (mFz (mLc [4] (mSeqI (mSq (mVar 2))) (gNm 4) mYes (mCall c__law_fr (mCons (mVar 4) (mCons (mSum (mSq (mVar 2))) mNil)))))))))
theorem k__law_parts_of {k : Nat} {fs c__law_take c__law_fr : FS} (h : Has K mg "_law_parts_of" 53) (Z : Bi mg) (C__law_take : CalD P w K mg base "_law_take" k c__law_take) (C__law_fr : CalD P w K mg base "_law_fr" k c__law_fr)  (len : ∀ ds Q, fs ds Q → ds.length = 2)
    (pure : ∀ ds Q, fs ds Q → b__law_parts_of c__law_take c__law_fr { nx := fun _ => Q .non, rt := Q } (startD N__law_parts_of ds)) : CalD P w K mg base "_law_parts_of" (k + 1) fs := by
  obtain ⟨f, fd, F, hm⟩ := h
  exact ⟨f, fd, ["state", "many"], fnD (m := b__law_parts_of c__law_take c__law_fr) F S__law_parts_of len (fun cdv A outer s H E hr => (dss_cons (ds_set (i := 2) S__law_parts_of.nd rfl (by first | exact Or.inl rfl | exact Or.inr rfl) (de_fz (df_lc (own := [("k", 3)]) rfl S__law_parts_of.nd (di_range1 Z.range (da_cons (de_var (pv 1)) da_nil)) (blkOk_by (by kernel_rfl)) (tgok_name (by decide)) (fun _ _ _ _ _ => (dg_name (pg_name (i := 3) S__law_parts_of.nd rfl (by first | exact Or.inl rfl | exact Or.inr rfl)))) (fun _ _ _ _ _ => dts_nil) (fun _ _ _ _ _ => (de_add de_int (de_call C__law_take hr (da_cons (de_var (pv 0)) (da_cons de_int da_nil)))))))) (dss_one (ds_ret (de_tupO Z.tuple (dq_of (de_fz (df_lc (own := [("one", 4)]) rfl S__law_parts_of.nd (di_seq (dq_of (de_var (pv 2)))) (blkOk_by (by kernel_rfl)) (tgok_name (by decide)) (fun _ _ _ _ _ => (dg_name (pg_name (i := 4) S__law_parts_of.nd rfl (by first | exact Or.inl rfl | exact Or.inr rfl)))) (fun _ _ _ _ _ => dts_nil) (fun _ _ _ _ _ => (de_call C__law_fr hr (da_cons (de_var (pv 4)) (da_cons (de_sum rfl Z.sum (dq_of (de_var (pv 2)))) da_nil)))))))))))) pure, hm, F.kp, F.bindsN fun _ _ _ _ _ _ us hl => match us, hl with | [_, _], _ => rfl⟩
abbrev N__law_share : List Str := ["state"]
theorem S__law_share : FnScope N__law_share ["state"] (defScope (top 54)) := ⟨rfl, rfl, rfl, by decide +kernel, rfl, by decide +kernel, by decide +kernel⟩
def b__law_share (c__law_take : FS) : SD := (mRet (mIx (mSq (mTup (mCons (mTupF (mCons (mC (.int 1)) (mCons (mC (.int 1)) mNil))) (mCons (mTupF (mCons (mC (.int 1)) (mCons (mC (.int 2)) mNil))) (mCons (mTupF (mCons (mC (.int 1)) (mCons (mC (.int 3)) mNil))) (mCons (mTupF (mCons (mC (.int 2)) (mCons (mC (.int 3)) mNil))) (mCons (mTupF (mCons (mC (.int 3)) (mCons (mC (.int 4)) mNil))) (mCons (mTupF (mCons (mC (.int 1)) (mCons (mC (.int 20)) mNil))) (mCons (mTupF (mCons (mC (.int 1)) (mCons (mC (.int 60)) mNil))) mNil))))))))) (mCall c__law_take (mCons (mVar 0) (mCons (mC (.int 7)) mNil)))))
theorem k__law_share {k : Nat} {fs c__law_take : FS} (h : Has K mg "_law_share" 54) (Z : Bi mg) (C__law_take : CalD P w K mg base "_law_take" k c__law_take)  (len : ∀ ds Q, fs ds Q → ds.length = 1)
    (pure : ∀ ds Q, fs ds Q → b__law_share c__law_take { nx := fun _ => Q .non, rt := Q } (startD N__law_share ds)) : CalD P w K mg base "_law_share" (k + 1) fs := by
  obtain ⟨f, fd, F, hm⟩ := h
  exact ⟨f, fd, ["state"], fnD (m := b__law_share c__law_take) F S__law_share len (fun cdv A outer s H E hr => (dss_one (ds_ret (de_ix (dq_of (de_tup (da_cons (de_tupF (da_cons de_int (da_cons de_int da_nil))) (da_cons (de_tupF (da_cons de_int (da_cons de_int da_nil))) (da_cons (de_tupF (da_cons de_int (da_cons de_int da_nil))) (da_cons (de_tupF (da_cons de_int (da_cons de_int da_nil))) (da_cons (de_tupF (da_cons de_int (da_cons de_int da_nil))) (da_cons (de_tupF (da_cons de_int (da_cons de_int da_nil))) (da_cons (de_tupF (da_cons de_int (da_cons de_int da_nil))) da_nil))))))))) (de_call C__law_take hr (da_cons (de_var (pv 0)) (da_cons de_int da_nil))))))) pure, hm, F.kp, F.bindsN fun _ _ _ _ _ _ us hl => match us, hl with | [_], _ => rfl⟩
abbrev N__law_places : List Str := ["values", "found", "k", "at", "j"]
theorem S__law_places : FnScope N__law_places ["values"] (defScope (top 55)) := ⟨rfl, rfl, rfl, by decide +kernel, rfl, by decide +kernel, by decide +kernel⟩
def b__law_places (c__law_less : FS) : SD := (mSeq (mSetOw 1 (mLst mNil)) (mSeq (mFor (mRange1 (mCons (mLen (mSq (mVar 0))) mNil)) (gNm 2) (mSeq (mSet 3 (mC (.int 0))) (mSeq (mFor (mRange1 (mCons (mLen (mOwn 1)) mNil)) (gNm 4) (mIfS (mNot (mTst (mCall c__law_less (mCons (mIx (mSq (mVar 0)) (mVar 2)) (mCons (mIx (mSq (mVar 0)) (mIx (mOwn 1) (mVar 4))) mNil))))) (mSet 3 (mOp (oI0 fun i j => .int (i + j)) (mVar 4) (mC (.int 1)))) mNext)) (mIns 1 (mCons (mVar 3) (mCons (mVar 2) mNil)))))) (mGive 1 (mRet (mVar 1)))))
theorem k__law_places {k : Nat} {fs c__law_less : FS} (h : Has K mg "_law_places" 55) (Z : Bi mg) (C__law_less : CalD P w K mg base "_law_less" k c__law_less)  (len : ∀ ds Q, fs ds Q → ds.length = 1)
    (pure : ∀ ds Q, fs ds Q → b__law_places c__law_less { nx := fun _ => Q .non, rt := Q } (startD N__law_places ds)) : CalD P w K mg base "_law_places" (k + 1) fs := by
  obtain ⟨f, fd, F, hm⟩ := h
  exact ⟨f, fd, ["values"], fnD (m := b__law_places c__law_less) F S__law_places len (fun cdv A outer s H E hr => (dss_cons (ds_setF (i := 1) S__law_places.nd rfl (by first | exact Or.inl rfl | exact Or.inr rfl) (df_lst da_nil)) (dss_cons (ds_for PassesOwn.never rfl (di_range1 Z.range (da_cons (de_len Z.len (dq_of (de_var (pv 0)))) da_nil)) (dg_name (pg_name (i := 2) S__law_places.nd rfl (by first | exact Or.inl rfl | exact Or.inr rfl))) (dss_cons (ds_set (i := 3) S__law_places.nd rfl (by first | exact Or.inl rfl | exact Or.inr rfl) de_int) (dss_cons (ds_for PassesOwn.never rfl (di_range1 Z.range (da_cons (de_len Z.len (dq_own (pv 1))) da_nil)) (dg_name (pg_name (i := 4) S__law_places.nd rfl (by first | exact Or.inl rfl | exact Or.inr rfl))) (dss_one (ds_if (dt_not (dt_val (de_call C__law_less hr (da_cons (de_ix (dq_of (de_var (pv 0))) (de_var (pv 2))) (da_cons (de_ix (dq_of (de_var (pv 0))) (de_ix (dq_own (pv 1)) (de_var (pv 4)))) da_nil))))) (dss_one (ds_set (i := 3) S__law_places.nd rfl (by first | exact Or.inl rfl | exact Or.inr rfl) (de_add (de_var (pv 4)) de_int))) dss_nil))) (dss_one (ds_ins (pv 1) (da_cons (de_var (pv 3)) (da_cons (de_var (pv 2)) da_nil))))))) (dss_give 1 (dss_one (ds_ret (de_var (pv 1)))))))) pure, hm, F.kp, F.bindsN fun _ _ _ _ _ _ us hl => match us, hl with | [_], _ => rfl⟩
abbrev N__law_values : List Str := ["state", "many", "values", "k", "chances", "share", "due", "places", "left", "weights", "turn", "a", "b", "much", "bent", "right", "one", "told", "whole"]
theorem S__law_values : FnScope N__law_values ["state"] (defScope (top 56)) := ⟨rfl, rfl, rfl, by decide +kernel, rfl, by decide +kernel, by decide +kernel⟩
def b__law_values (c__law_take : FS) (c__law_fr : FS) (c__law_parts_of : FS) (c__law_share : FS) (c__law_threshold : FS) (c__law_places : FS) (c_sorted_places : FS) (c_worst : FS) (c__law_least : FS) (c__law_over : FS) (c__law_sub : FS) (c_worst_weights : FS) (c__law_dot : FS) (c_accepts_weights : FS) (c__law_add : FS) (c__law_less : FS) (c__law_mul : FS) : SD := (mSeq (mSet 1 (mOp (oI0 fun i j => .int (i + j)) (mC (.int 1)) (mCall c__law_take (mCons (mVar 0) (mCons (mC (.int 6)) mNil))))) (mSeq (mSet 2 (mFz (mLc [3] (mRange1 (mCons (mVar 1) mNil)) (gNm 3) mYes (mCall c__law_fr (mCons (mOp (oI0 fun i j => .int (i - j)) (mCall c__law_take (mCons (mVar 0) (mCons (mC (.int 7)) mNil))) (mC (.int 3))) (mCons (mOp (oI0 fun i j => .int (i + j)) (mC (.int 1)) (mCall c__law_take (mCons (mVar 0) (mCons (mC (.int 2)) mNil)))) mNil)))))) (mSeq (mAsg (mTup (mCons (mCall c__law_parts_of (mCons (mVar 0) (mCons (mVar 1) mNil))) (mCons (mCall c__law_share (mCons (mVar 0) mNil)) mNil))) (gTupD 2 (gConsD (gNm 4) (gConsD (gNm 5) gNilD)))) (mSeq (mPar 6 7 (mCons (mCall c__law_threshold (mCons (mVar 2) (mCons (mVar 4) (mCons (mWeak (mVar 5)) mNil)))) (mCons (mCall c__law_places (mCons (mVar 2) mNil)) mNil))) (mSeq (mIfS (mOr (mTst (mOp oNe (mFz (mLstO (mSq (mCall c_sorted_places (mCons (mVar 2) mNil))))) (mVar 7))) (mTst (mOp oNe (mCall c_worst (mCons (mVar 2) (mCons (mVar 4) (mCons (mWeak (mVar 5)) mNil)))) (mVar 6)))) (mRet (mC (.bl false))) mNext) (mSeq (mParO 8 9 (mTup (mCons (mC (.int 1)) (mCons (mC (.int 1)) mNil))) (mRepL (mFz (mLst (mCons (mTup (mCons (mC (.int 0)) (mCons (mC (.int 1)) mNil))) mNil))) (mVar 1))) (mSeq (mFor (mSeqI (mSq (mVar 7))) (gNm 3) (mSeq (mSetIx 9 (mVar 3) (mCall c__law_least (mCons (mFz (mLst (mCons (mVar 8) (mCons (mCall c__law_over (mCons (mIx (mSq (mVar 4)) (mVar 3)) (mCons (mWeak (mVar 5)) mNil))) mNil)))) mNil))) (mSet 8 (mCall c__law_sub (mCons (mVar 8) (mCons (mIx (mOwn 9) (mVar 3)) mNil)))))) (mGive 9 (mSeq (mIfS (mOr (mTst (mOp oNe (mTupO (mSq (mCall c_worst_weights (mCons (mVar 2) (mCons (mVar 4) (mCons (mWeak (mVar 5)) mNil)))))) (mTupO (mSq (mVar 9))))) (mTst (mOp oNe (mCall c__law_dot (mCons (mVar 9) (mCons (mVar 2) mNil))) (mVar 6)))) (mRet (mC (.bl false))) mNext) (mSeq (mIfS (mOr (mTst (mOp oIsNotB (mCall c_accepts_weights (mCons (mVar 2) (mCons (mVar 4) (mCons (mWeak (mVar 5)) (mCons (mVar 6) (mCons (mTupO (mSq (mVar 9))) mNil)))))) (mC (.bl true)))) (mTst (mOp oIsNotB (mCall c_accepts_weights (mCons (mVar 2) (mCons (mVar 4) (mCons (mWeak (mVar 5)) (mCons (mCall c__law_sub (mCons (mVar 6) (mCons (mTup (mCons (mC (.int 1)) (mCons (mC (.int 9)) mNil))) mNil))) (mCons (mTupO (mSq (mVar 9))) mNil)))))) (mC (.bl false))))) (mRet (mC (.bl false))) mNext) (mSeq (mFor (mRange1 (mCons (mC (.int 5)) mNil)) (gNm 10) (mSeq (mPar3 11 12 13 (mCons (mCall c__law_take (mCons (mVar 0) (mCons (mVar 1) mNil))) (mCons (mCall c__law_take (mCons (mVar 0) (mCons (mVar 1) mNil))) (mCons (mTup (mCons (mC (.int 1)) (mCons (mOp (oI0 fun i j => .int (i + j)) (mC (.int 3)) (mCall c__law_take (mCons (mVar 0) (mCons (mC (.int 40)) mNil)))) mNil))) mNil)))) (mSeq (mSetOw 14 (mLstO (mSq (mVar 9)))) (mSeq (mSetIx 14 (mVar 11) (mCall c__law_sub (mCons (mIx (mOwn 14) (mVar 11)) (mCons (mVar 13) mNil)))) (mSeq (mSetIx 14 (mVar 12) (mCall c__law_add (mCons (mIx (mOwn 14) (mVar 12)) (mCons (mVar 13) mNil)))) (mSeq (mSet 15 (mAndV (mOp oEq (mLen (mSq (mFz (mLc [16] (mSeqI (mOwn 14)) (gNm 16) (mTst (mOp (oI0 fun i j => .bl (decide (i < j))) (mIx (mSq (mVar 16)) (mC (.int 0))) (mC (.int 0)))) (mVar 16))))) (mC (.int 0))) (mOp oEq (mLen (mSq (mFz (mLc [3] (mRange1 (mCons (mVar 1) mNil)) (gNm 3) (mTst (mCall c__law_less (mCons (mCall c__law_over (mCons (mIx (mSq (mVar 4)) (mVar 3)) (mCons (mWeak (mVar 5)) mNil))) (mCons (mIx (mOwn 14) (mVar 3)) mNil)))) (mVar 3))))) (mC (.int 0))))) (mSeq (mSet 17 (mCall c__law_add (mCons (mVar 6) (mCons (mTup (mCons (mCall c__law_take (mCons (mVar 0) (mCons (mC (.int 2)) mNil))) (mCons (mC (.int 5)) mNil))) mNil)))) (mGive 14 (mIfS (mTst (mOp oNe (mCall c_accepts_weights (mCons (mVar 2) (mCons (mVar 4) (mCons (mWeak (mVar 5)) (mCons (mVar 17) (mCons (mTupO (mSq (mVar 14))) mNil)))))) (mAndV (mVar 15) (mNotV (mCall c__law_less (mCons (mVar 17) (mCons (mCall c__law_dot (mCons (mVar 14) (mCons (mVar 2) mNil))) mNil))))))) (mRet (mC (.bl false))) mNext))))))))) (mSeq (mSet 18 (mTupO (mSq (mFz (mLc [16] (mSeqI (mSq (mVar 9))) (gNm 16) mYes (mCall c__law_mul (mCons (mTup (mCons (mC (.int 1)) (mCons (mC (.int 2)) mNil))) (mCons (mVar 16) mNil)))))))) (mRet (mAndV (mOp oIsB (mCall c_accepts_weights (mCons (mVar 2) (mCons (mVar 4) (mCons (mWeak (mVar 5)) (mCons (mTup (mCons (mC (.int 100)) (mCons (mC (.int 1)) mNil))) (mCons (mVar 18) mNil)))))) (mC (.bl false))) (mOp oIsB (mCall c_accepts_weights (mCons (mVar 2) (mCons (mVar 4) (mCons (mWeak (mVar 5)) (mCons (mVar 6) (mCons (mFz (mLstO (mSq (mVar 9)))) mNil)))))) (mC (.bl false)))))))))))))))))
theorem k__law_values {k : Nat} {fs c__law_take c__law_fr c__law_parts_of c__law_share c__law_threshold c__law_places c_sorted_places c_worst c__law_least c__law_over c__law_sub c_worst_weights c__law_dot c_accepts_weights c__law_add c__law_less c__law_mul : FS} (h : Has K mg "_law_values" 56) (Z : Bi mg) (C__law_take : CalD P w K mg base "_law_take" k c__law_take) (C__law_fr : CalD P w K mg base "_law_fr" k c__law_fr) (C__law_parts_of : CalD P w K mg base "_law_parts_of" k c__law_parts_of) (C__law_share : CalD P w K mg base "_law_share" k c__law_share) (C__law_threshold : CalD P w K mg base "_law_threshold" k c__law_threshold) (C__law_places : CalD P w K mg base "_law_places" k c__law_places) (C_sorted_places : CalD P w K mg base "sorted_places" k c_sorted_places) (C_worst : CalD P w K mg base "worst" k c_worst) (C__law_least : CalD P w K mg base "_law_least" k c__law_least) (C__law_over : CalD P w K mg base "_law_over" k c__law_over) (C__law_sub : CalD P w K mg base "_law_sub" k c__law_sub) (C_worst_weights : CalD P w K mg base "worst_weights" k c_worst_weights) (C__law_dot : CalD P w K mg base "_law_dot" k c__law_dot) (C_accepts_weights : CalD P w K mg base "accepts_weights" k c_accepts_weights) (C__law_add : CalD P w K mg base "_law_add" k c__law_add) (C__law_less : CalD P w K mg base "_law_less" k c__law_less) (C__law_mul : CalD P w K mg base "_law_mul" k c__law_mul)  (len : ∀ ds Q, fs ds Q → ds.length = 1)
    (pure : ∀ ds Q, fs ds Q → b__law_values c__law_take c__law_fr c__law_parts_of c__law_share c__law_threshold c__law_places c_sorted_places c_worst c__law_least c__law_over c__law_sub c_worst_weights c__law_dot c_accepts_weights c__law_add c__law_less c__law_mul { nx := fun _ => Q .non, rt := Q } (startD N__law_values ds)) : CalD P w K mg base "_law_values" (k + 1) fs := by
  obtain ⟨f, fd, F, hm⟩ := h
  exact ⟨f, fd, ["state"], fnD (m := b__law_values c__law_take c__law_fr c__law_parts_of c__law_share c__law_threshold c__law_places c_sorted_places c_worst c__law_least c__law_over c__law_sub c_worst_weights c__law_dot c_accepts_weights c__law_add c__law_less c__law_mul) F S__law_values len (fun cdv A outer s H E hr => (dss_cons (ds_set (i := 1) S__law_values.nd rfl (by first | exact Or.inl rfl | exact Or.inr rfl) (de_add de_int (de_call C__law_take hr (da_cons (de_var (pv 0)) (da_cons de_int da_nil))))) (dss_cons (ds_lc (ps_lcS (i := 2) (own := [("k", 3)]) rfl S__law_values.nd rfl rfl (sw_true rfl rfl rfl (by decide +kernel)) (di_range1 Z.range (da_cons (de_var (pv 1)) da_nil)) (blkOk_by (by kernel_rfl)) (tgok_name (by decide)) (fun _ _ _ _ _ => (dg_name (pg_name (i := 3) S__law_values.nd rfl (by first | exact Or.inl rfl | exact Or.inr rfl)))) (fun _ _ _ _ _ => dts_nil) (fun _ _ _ _ _ => (de_call C__law_fr hr (da_cons (de_sub (de_call C__law_take hr (da_cons (de_var (pv 0)) (da_cons de_int da_nil))) de_int) (da_cons (de_add de_int (de_call C__law_take hr (da_cons (de_var (pv 0)) (da_cons de_int da_nil)))) da_nil)))))) (dss_cons (ds_asg (de_tup (da_cons (de_call C__law_parts_of hr (da_cons (de_var (pv 0)) (da_cons (de_var (pv 1)) da_nil))) (da_cons (de_call C__law_share hr (da_cons (de_var (pv 0)) da_nil)) da_nil))) (dg_tup rfl (dgs_cons (dg_name (pg_name (i := 4) S__law_values.nd rfl (by first | exact Or.inl rfl | exact Or.inr rfl))) (dgs_cons (dg_name (pg_name (i := 5) S__law_values.nd rfl (by first | exact Or.inl rfl | exact Or.inr rfl))) dgs_nil)))) (dss_cons (ds_par (i := 6) (j := 7) rfl S__law_values.nd rfl rfl (by decide) rfl rfl (da_cons (de_call C__law_threshold hr (da_cons (de_var (pv 2)) (da_cons (de_var (pv 4)) (da_cons (de_weak (de_var (pv 5))) da_nil)))) (da_cons (de_call C__law_places hr (da_cons (de_var (pv 2)) da_nil)) da_nil))) (dss_cons (ds_if (dt_w (dw_or (dt_ne hr.units (de_fz (df_lstO Z.list (dq_of (de_call C_sorted_places hr (da_cons (de_var (pv 2)) da_nil))))) (de_var (pv 7))) (dw_or1 (dt_ne hr.units (de_call C_worst hr (da_cons (de_var (pv 2)) (da_cons (de_var (pv 4)) (da_cons (de_weak (de_var (pv 5))) da_nil)))) (de_var (pv 6)))))) (dss_one (ds_ret de_bl)) dss_nil) (dss_cons (ds_parO (i := 8) (j := 9) rfl S__law_values.nd rfl rfl (by decide) rfl rfl (de_tup (da_cons de_int (da_cons de_int da_nil))) (df_repL (de_fz (df_lst (da_cons (de_tup (da_cons de_int (da_cons de_int da_nil))) da_nil))) (de_var (pv 1)))) (dss_cons (ds_for PassesOwn.never rfl (di_seq (dq_of (de_var (pv 7)))) (dg_name (pg_name (i := 3) S__law_values.nd rfl (by first | exact Or.inl rfl | exact Or.inr rfl))) (dss_cons (ds_setIx (pv 9) (de_var (pv 3)) (de_call C__law_least hr (da_cons (de_fz (df_lst (da_cons (de_var (pv 8)) (da_cons (de_call C__law_over hr (da_cons (de_ix (dq_of (de_var (pv 4))) (de_var (pv 3))) (da_cons (de_weak (de_var (pv 5))) da_nil))) da_nil)))) da_nil))) (dss_one (ds_set (i := 8) S__law_values.nd rfl (by first | exact Or.inl rfl | exact Or.inr rfl) (de_call C__law_sub hr (da_cons (de_var (pv 8)) (da_cons (de_ix (dq_own (pv 9)) (de_var (pv 3))) da_nil))))))) (dss_give 9 (dss_cons (ds_if (dt_w (dw_or (dt_ne hr.units (de_tupO Z.tuple (dq_of (de_call C_worst_weights hr (da_cons (de_var (pv 2)) (da_cons (de_var (pv 4)) (da_cons (de_weak (de_var (pv 5))) da_nil)))))) (de_tupO Z.tuple (dq_of (de_var (pv 9))))) (dw_or1 (dt_ne hr.units (de_call C__law_dot hr (da_cons (de_var (pv 9)) (da_cons (de_var (pv 2)) da_nil))) (de_var (pv 6)))))) (dss_one (ds_ret de_bl)) dss_nil) (dss_cons (ds_if (dt_w (dw_or (dt_isNotB (de_call C_accepts_weights hr (da_cons (de_var (pv 2)) (da_cons (de_var (pv 4)) (da_cons (de_weak (de_var (pv 5))) (da_cons (de_var (pv 6)) (da_cons (de_tupO Z.tuple (dq_of (de_var (pv 9)))) da_nil)))))) de_bl) (dw_or1 (dt_isNotB (de_call C_accepts_weights hr (da_cons (de_var (pv 2)) (da_cons (de_var (pv 4)) (da_cons (de_weak (de_var (pv 5))) (da_cons (de_call C__law_sub hr (da_cons (de_var (pv 6)) (da_cons (de_tup (da_cons de_int (da_cons de_int da_nil))) da_nil))) (da_cons (de_tupO Z.tuple (dq_of (de_var (pv 9)))) da_nil)))))) de_bl)))) (dss_one (ds_ret de_bl)) dss_nil) (dss_cons (ds_for PassesOwn.never rfl (di_range1 Z.range (da_cons de_int da_nil)) (dg_name (pg_name (i := 10) S__law_values.nd rfl (by first | exact Or.inl rfl | exact Or.inr rfl))) (dss_cons (ds_par3 (i := 11) (j := 12) (k := 13) rfl S__law_values.nd rfl rfl rfl (by decide) (by decide) (by decide) rfl rfl rfl (da_cons (de_call C__law_take hr (da_cons (de_var (pv 0)) (da_cons (de_var (pv 1)) da_nil))) (da_cons (de_call C__law_take hr (da_cons (de_var (pv 0)) (da_cons (de_var (pv 1)) da_nil))) (da_cons (de_tup (da_cons de_int (da_cons (de_add de_int (de_call C__law_take hr (da_cons (de_var (pv 0)) (da_cons de_int da_nil)))) da_nil))) da_nil)))) (dss_cons (ds_setF (i := 14) S__law_values.nd rfl (by first | exact Or.inl rfl | exact Or.inr rfl) (df_lstO Z.list (dq_of (de_var (pv 9))))) (dss_cons (ds_setIx (pv 14) (de_var (pv 11)) (de_call C__law_sub hr (da_cons (de_ix (dq_own (pv 14)) (de_var (pv 11))) (da_cons (de_var (pv 13)) da_nil)))) (dss_cons (ds_setIx (pv 14) (de_var (pv 12)) (de_call C__law_add hr (da_cons (de_ix (dq_own (pv 14)) (de_var (pv 12))) (da_cons (de_var (pv 13)) da_nil)))) (dss_cons (ds_set (i := 15) S__law_values.nd rfl (by first | exact Or.inl rfl | exact Or.inr rfl) (de_and (de_eq hr.units (de_len Z.len (dq_of (de_fz (df_lc (own := [("one", 16)]) rfl S__law_values.nd (di_seq (dq_own (pv 14))) (blkOk_by (by kernel_rfl)) (tgok_name (by decide)) (fun _ _ _ _ _ => (dg_name (pg_name (i := 16) S__law_values.nd rfl (by first | exact Or.inl rfl | exact Or.inr rfl)))) (fun _ _ _ _ _ => (dts_one (dt_lt (de_ix (dq_of (de_var (pv 16))) de_int) de_int))) (fun _ _ _ _ _ => (de_var (pv 16))))))) de_int) (de_one (de_eq hr.units (de_len Z.len (dq_of (de_fz (df_lc (own := [("k", 3)]) rfl S__law_values.nd (di_range1 Z.range (da_cons (de_var (pv 1)) da_nil)) (blkOk_by (by kernel_rfl)) (tgok_name (by decide)) (fun _ _ _ _ _ => (dg_name (pg_name (i := 3) S__law_values.nd rfl (by first | exact Or.inl rfl | exact Or.inr rfl)))) (fun _ _ _ _ _ => (dts_one (dt_val (de_call C__law_less hr (da_cons (de_call C__law_over hr (da_cons (de_ix (dq_of (de_var (pv 4))) (de_var (pv 3))) (da_cons (de_weak (de_var (pv 5))) da_nil))) (da_cons (de_ix (dq_own (pv 14)) (de_var (pv 3))) da_nil)))))) (fun _ _ _ _ _ => (de_var (pv 3))))))) de_int)))) (dss_cons (ds_set (i := 17) S__law_values.nd rfl (by first | exact Or.inl rfl | exact Or.inr rfl) (de_call C__law_add hr (da_cons (de_var (pv 6)) (da_cons (de_tup (da_cons (de_call C__law_take hr (da_cons (de_var (pv 0)) (da_cons de_int da_nil))) (da_cons de_int da_nil))) da_nil)))) (dss_give 14 (dss_one (ds_if (dt_ne hr.units (de_call C_accepts_weights hr (da_cons (de_var (pv 2)) (da_cons (de_var (pv 4)) (da_cons (de_weak (de_var (pv 5))) (da_cons (de_var (pv 17)) (da_cons (de_tupO Z.tuple (dq_of (de_var (pv 14)))) da_nil)))))) (de_and (de_var (pv 15)) (de_one (de_not (de_call C__law_less hr (da_cons (de_var (pv 17)) (da_cons (de_call C__law_dot hr (da_cons (de_var (pv 14)) (da_cons (de_var (pv 2)) da_nil))) da_nil))))))) (dss_one (ds_ret de_bl)) dss_nil)))))))))) (dss_cons (ds_set (i := 18) S__law_values.nd rfl (by first | exact Or.inl rfl | exact Or.inr rfl) (de_tupO Z.tuple (dq_of (de_fz (df_lc (own := [("one", 16)]) rfl S__law_values.nd (di_seq (dq_of (de_var (pv 9)))) (blkOk_by (by kernel_rfl)) (tgok_name (by decide)) (fun _ _ _ _ _ => (dg_name (pg_name (i := 16) S__law_values.nd rfl (by first | exact Or.inl rfl | exact Or.inr rfl)))) (fun _ _ _ _ _ => dts_nil) (fun _ _ _ _ _ => (de_call C__law_mul hr (da_cons (de_tup (da_cons de_int (da_cons de_int da_nil))) (da_cons (de_var (pv 16)) da_nil))))))))) (dss_one (ds_ret (de_and (de_isB (de_call C_accepts_weights hr (da_cons (de_var (pv 2)) (da_cons (de_var (pv 4)) (da_cons (de_weak (de_var (pv 5))) (da_cons (de_tup (da_cons de_int (da_cons de_int da_nil))) (da_cons (de_var (pv 18)) da_nil)))))) de_bl) (de_one (de_isB (de_call C_accepts_weights hr (da_cons (de_var (pv 2)) (da_cons (de_var (pv 4)) (da_cons (de_weak (de_var (pv 5))) (da_cons (de_var (pv 6)) (da_cons (de_fz (df_lstO Z.list (dq_of (de_var (pv 9))))) da_nil)))))) de_bl)))))))))))))))))) pure, hm, F.kp, F.bindsN fun _ _ _ _ _ _ us hl => match us, hl with | [_], _ => rfl⟩
abbrev N__law_trees : List Str := ["state", "house", "tree", "size", "chances", "k", "row", "share", "on", "back", "lasts", "some", "found", "told", "costs", "dues", "j", "sums", "flat", "kids", "quotients", "inner", "many", "bad"]
theorem S__law_trees : FnScope N__law_trees ["state"] (defScope (top 57)) := ⟨rfl, rfl, rfl, by decide +kernel, rfl, by decide +kernel, by decide +kernel⟩
def b__law_trees (c__law_line_house : FS) (c__law_tree_of : FS) (c__law_parts_of : FS) (c__law_fr : FS) (c__law_take : FS) (c__law_share : FS) (c__law_mul : FS) (c_are_chances : FS) (c_chance : FS) (c_mean : FS) (c__law_dot : FS) (c_share_of : FS) (c__law_sum : FS) (c__law_sub : FS) (c__law_threshold : FS) (c_worst_costs : FS) (c_worst_cost : FS) (c__law_add : FS) (c__law_most : FS) (c_greatest_from : FS) (c_greatest_cost : FS) (c__law_less : FS) (c__law_over : FS) (c_even : FS) (c_tilted : FS) : SD := (mSeq (mSet 1 (mCall c__law_line_house (mCons (mVar 0) (mCons (mC (.int 9)) mNil)))) (mSeq (mAsg (mTup (mCons (mCall c__law_tree_of (mCons (mVar 1) mNil)) (mCons (mLen (mSq (mDGet (mVar 1) (mC (.str "nodes"))))) mNil))) (gTupD 2 (gConsD (gNm 2) (gConsD (gNm 3) gNilD)))) (mSeq (mSet 4 (mTupO (mSq (mFz (mLc [5] (mRange1 (mCons (mVar 3) mNil)) (gNm 5) mYes (mIf (mTst (mOp oNe (mIx (mSq (mDGet (mVar 1) (mC (.str "ahead")))) (mVar 5)) (mFz (mLst mNil)))) (mCall c__law_parts_of (mCons (mVar 0) (mCons (mLen (mSq (mIx (mSq (mDGet (mVar 1) (mC (.str "ahead")))) (mVar 5)))) mNil))) (mTup mNil))))))) (mSeq (mAsg (mTup (mCons (mTupO (mSq (mFz (mLc [5] (mRange1 (mCons (mVar 3) mNil)) (gNm 5) mYes (mCall c__law_fr (mCons (mOp (oI0 fun i j => .int (i - j)) (mCall c__law_take (mCons (mVar 0) (mCons (mC (.int 7)) mNil))) (mC (.int 3))) (mCons (mOp (oI0 fun i j => .int (i + j)) (mC (.int 1)) (mCall c__law_take (mCons (mVar 0) (mCons (mC (.int 2)) mNil)))) mNil))))))) (mCons (mCall c__law_share (mCons (mVar 0) mNil)) mNil))) (gTupD 2 (gConsD (gNm 6) (gConsD (gNm 7) gNilD)))) (mSeq (mSetOw 8 (mLst mNil)) (mSeq (mFor (mRange1 (mCons (mVar 3) mNil)) (gNm 5) (mSeq (mSet 9 (mIx (mSq (mIx (mSq (mDGet (mVar 1) (mC (.str "nodes")))) (mVar 5))) (mC (.int 0)))) (mApp 8 (mIf (mTst (mOp oIsN (mVar 9) (mC .non))) (mTup (mCons (mC (.int 1)) (mCons (mC (.int 1)) mNil))) (mCall c__law_mul (mCons (mIx (mOwn 8) (mVar 9)) (mCons (mIx (mSq (mIx (mSq (mVar 4)) (mVar 9))) (mIndex (mSq (mIx (mSq (mDGet (mVar 1) (mC (.str "ahead")))) (mVar 9))) (mVar 5))) mNil))))))) (mGive 8 (mSeq (mIfS (mOr (mTst (mOp oIsNotB (mCall c_are_chances (mCons (mVar 2) (mCons (mVar 4) mNil))) (mC (.bl true)))) (mOr (mTst (mOp oNe (mFz (mLc [5] (mRange1 (mCons (mVar 3) mNil)) (gNm 5) mYes (mCall c_chance (mCons (mVar 2) (mCons (mVar 4) (mCons (mVar 5) mNil)))))) (mVar 8))) (mTst (mOp oNe (mCall c_mean (mCons (mVar 2) (mCons (mVar 4) (mCons (mVar 6) mNil)))) (mCall c__law_dot (mCons (mVar 6) (mCons (mVar 8) mNil))))))) (mRet (mC (.bl false))) mNext) (mSeq (mSet 10 (mFz (mLc [5] (mRange1 (mCons (mVar 3) mNil)) (gNm 5) (mTst (mOp oEq (mIx (mSq (mDGet (mVar 1) (mC (.str "ahead")))) (mVar 5)) (mFz (mLst mNil)))) (mVar 5)))) (mSeq (mSet 11 (mFz (mLc [5] (mSeqI (mSq (mVar 10))) (gNm 5) (mTst (mOp oEq (mCall c__law_take (mCons (mVar 0) (mCons (mC (.int 2)) mNil))) (mC (.int 0)))) (mVar 5)))) (mSeq (mIfS (mOr (mTst (mOp oNe (mCall c_share_of (mCons (mVar 2) (mCons (mVar 4) (mCons (mVar 11) mNil)))) (mCall c__law_sum (mCons (mFz (mLc [5] (mSeqI (mSq (mVar 11))) (gNm 5) mYes (mIx (mSq (mVar 8)) (mVar 5)))) mNil)))) (mTst (mOp oNe (mCall c_share_of (mCons (mVar 2) (mCons (mVar 4) (mCons (mVar 10) mNil)))) (mTup (mCons (mC (.int 1)) (mCons (mC (.int 1)) mNil)))))) (mRet (mC (.bl false))) mNext) (mSeq (mNewT 12) (mSeq (mFor (mSeqI (mSq (mTup (mCons (mVar 7) (mCons (mTupF (mCons (mC (.int 1)) (mCons (mC (.int 1)) mNil))) (mCons (mTupF (mCons (mC (.int 1)) (mCons (mC (.int 1000)) mNil))) mNil)))))) (gNm 13) (mSeq (mSetOw 14 (mRepL (mFz (mLst (mCons (mC .non) mNil))) (mVar 3))) (mSeq (mFor (mRange3 (mCons (mOp (oI0 fun i j => .int (i - j)) (mVar 3) (mC (.int 1))) (mCons (mNeg (mC (.int 1))) (mCons (mNeg (mC (.int 1))) mNil)))) (gNm 5) (mSeq (mSetIx 14 (mVar 5) (mIx (mSq (mVar 6)) (mVar 5))) (mIfS (mTst (mOp oNe (mIx (mSq (mDGet (mVar 1) (mC (.str "ahead")))) (mVar 5)) (mFz (mLst mNil)))) (mSeq (mSet 15 (mFz (mLc [16] (mSeqI (mSq (mIx (mSq (mDGet (mVar 1) (mC (.str "ahead")))) (mVar 5)))) (gNm 16) mYes (mCall c__law_sub (mCons (mTup (mCons (mC (.int 0)) (mCons (mC (.int 1)) mNil))) (mCons (mIx (mOwn 14) (mVar 16)) mNil)))))) (mSetIx 14 (mVar 5) (mCall c__law_sub (mCons (mIx (mSq (mVar 6)) (mVar 5)) (mCons (mCall c__law_threshold (mCons (mVar 15) (mCons (mIx (mSq (mVar 4)) (mVar 5)) (mCons (mWeak (mVar 13)) mNil)))) mNil))))) mNext))) (mGive 14 (mSeq (mIfS (mOr (mTst (mOp oNe (mFz (mLstO (mSq (mCall c_worst_costs (mCons (mVar 2) (mCons (mVar 4) (mCons (mWeak (mVar 13)) (mCons (mVar 6) mNil)))))))) (mVar 14))) (mTst (mOp oNe (mCall c_worst_cost (mCons (mVar 2) (mCons (mVar 4) (mCons (mWeak (mVar 13)) (mCons (mVar 6) mNil))))) (mIx (mSq (mVar 14)) (mC (.int 0)))))) (mRet (mC (.bl false))) mNext) (mPutT 12 (mVar 13) (mIx (mSq (mVar 14)) (mC (.int 0))))))))) (mSeq (mSetOw 17 (mRepL (mFz (mLst (mCons (mC .non) mNil))) (mVar 3))) (mSeq (mFor (mRange3 (mCons (mOp (oI0 fun i j => .int (i - j)) (mVar 3) (mC (.int 1))) (mCons (mNeg (mC (.int 1))) (mCons (mNeg (mC (.int 1))) mNil)))) (gNm 5) (mSetIx 17 (mVar 5) (mCall c__law_add (mCons (mIx (mSq (mVar 6)) (mVar 5)) (mCons (mIf (mTst (mOp oNe (mIx (mSq (mDGet (mVar 1) (mC (.str "ahead")))) (mVar 5)) (mFz (mLst mNil)))) (mCall c__law_most (mCons (mFz (mLc [16] (mSeqI (mSq (mIx (mSq (mDGet (mVar 1) (mC (.str "ahead")))) (mVar 5)))) (gNm 16) mYes (mIx (mOwn 17) (mVar 16)))) mNil)) (mTup (mCons (mC (.int 0)) (mCons (mC (.int 1)) mNil)))) mNil))))) (mGive 17 (mSeq (mIfS (mOr (mTst (mOp oNe (mFz (mLc [5] (mRange1 (mCons (mVar 3) mNil)) (gNm 5) mYes (mCall c_greatest_from (mCons (mVar 2) (mCons (mVar 6) (mCons (mVar 5) mNil)))))) (mVar 17))) (mTst (mOp oNe (mCall c_greatest_cost (mCons (mVar 2) (mCons (mVar 6) mNil))) (mIx (mSq (mVar 17)) (mC (.int 0)))))) (mRet (mC (.bl false))) mNext) (mSeq (mIfS (mOr (mTst (mOp oNe (mGetT 12 (mTupF (mCons (mC (.int 1)) (mCons (mC (.int 1)) mNil)))) (mCall c__law_dot (mCons (mVar 6) (mCons (mVar 8) mNil))))) (mOr (mTst (mOp oNe (mGetT 12 (mTupF (mCons (mC (.int 1)) (mCons (mC (.int 1000)) mNil)))) (mIx (mSq (mVar 17)) (mC (.int 0))))) (mOr (mTst (mCall c__law_less (mCons (mGetT 12 (mVar 7)) (mCons (mGetT 12 (mTupF (mCons (mC (.int 1)) (mCons (mC (.int 1)) mNil)))) mNil)))) (mTst (mCall c__law_less (mCons (mIx (mSq (mVar 17)) (mC (.int 0))) (mCons (mGetT 12 (mVar 7)) mNil))))))) (mRet (mC (.bl false))) mNext) (mSeq (mSet 18 (mTupO (mSq (mFz (mLc [19] (mSeqI (mSq (mDGet (mVar 1) (mC (.str "ahead"))))) (gNm 19) mYes (mTupO (mSq (mFz (mRepL (mFz (mLst (mCons (mTup (mCons (mC (.int 1)) (mCons (mLen (mSq (mVar 19))) mNil))) mNil))) (mLen (mSq (mVar 19)))))))))))) (mSeq (mSet 20 (mTupO (mSq (mFz (mLc [5] (mRange1 (mCons (mVar 3) mNil)) (gNm 5) mYes (mTupO (mSq (mFz (mLc [16] (mRange1 (mCons (mLen (mSq (mIx (mSq (mVar 18)) (mVar 5)))) mNil)) (gNm 16) mYes (mCall c__law_over (mCons (mIx (mSq (mIx (mSq (mVar 18)) (mVar 5))) (mVar 16)) (mCons (mIx (mSq (mIx (mSq (mVar 4)) (mVar 5))) (mVar 16)) mNil)))))))))))) (mSeq (mIfS (mOr (mTst (mOp oNe (mTupO (mSq (mCall c_even (mCons (mVar 2) mNil)))) (mVar 18))) (mTst (mOp oNe (mTupO (mSq (mCall c_tilted (mCons (mVar 2) (mCons (mVar 4) (mCons (mVar 18) mNil)))))) (mVar 20)))) (mRet (mC (.bl false))) mNext) (mSeq (mSet 21 (mFz (mLc [5] (mRange1 (mCons (mVar 3) mNil)) (gNm 5) (mTst (mOp oNe (mIx (mSq (mDGet (mVar 1) (mC (.str "ahead")))) (mVar 5)) (mFz (mLst mNil)))) (mVar 5)))) (mSeq (mSet 5 (mIx (mSq (mVar 21)) (mCall c__law_take (mCons (mVar 0) (mCons (mLen (mSq (mVar 21))) mNil))))) (mSeq (mSet 22 (mLen (mSq (mIx (mSq (mDGet (mVar 1) (mC (.str "ahead")))) (mVar 5))))) (mSeq (mFor (mSeqI (mSq (mTup (mCons (mTupO (mSq (mFz (mRepL (mFz (mLst (mCons (mTup (mCons (mC (.int 2)) (mCons (mC (.int 1)) mNil))) mNil))) (mVar 22))))) (mCons (mOp oRepT (mTup (mCons (mTup (mCons (mC (.int 0)) (mCons (mC (.int 1)) mNil))) mNil)) (mVar 22)) (mCons (mTup mNil) (mCons (mTupO (mSq (mFz (mRepL (mFz (mLst (mCons (mTup (mCons (mC (.int 1)) (mCons (mOp (oI0 fun i j => .int (i + j)) (mVar 22) (mC (.int 1))) mNil))) mNil))) (mVar 22))))) mNil))))))) (gNm 23) (mIfS (mTst (mOp oIsNotB (mCall c_are_chances (mCons (mVar 2) (mCons (mOp oCatT (mOp oCatT (mSlT (mVar 4) mNoP (mPart (mVar 5))) (mTup (mCons (mVar 23) mNil))) (mSlT (mVar 4) (mPart (mOp (oI0 fun i j => .int (i + j)) (mVar 5) (mC (.int 1)))) mNoP)) mNil))) (mC (.bl false)))) (mRet (mC (.bl false))) mNext)) (mRet (mAndV (mOp oIsB (mCall c_are_chances (mCons (mVar 2) (mCons (mSlT (mVar 4) mNoP (mPart (mNeg (mC (.int 1))))) mNil))) (mC (.bl false))) (mOp oIsB (mCall c_are_chances (mCons (mVar 2) (mCons (mC .non) mNil))) (mC (.bl false))))))))))))))))))))))))))))))
theorem k__law_trees {k : Nat} {fs c__law_line_house c__law_tree_of c__law_parts_of c__law_fr c__law_take c__law_share c__law_mul c_are_chances c_chance c_mean c__law_dot c_share_of c__law_sum c__law_sub c__law_threshold c_worst_costs c_worst_cost c__law_add c__law_most c_greatest_from c_greatest_cost c__law_less c__law_over c_even c_tilted : FS} (h : Has K mg "_law_trees" 57) (Z : Bi mg) (C__law_line_house : CalD P w K mg base "_law_line_house" k c__law_line_house) (C__law_tree_of : CalD P w K mg base "_law_tree_of" k c__law_tree_of) (C__law_parts_of : CalD P w K mg base "_law_parts_of" k c__law_parts_of) (C__law_fr : CalD P w K mg base "_law_fr" k c__law_fr) (C__law_take : CalD P w K mg base "_law_take" k c__law_take) (C__law_share : CalD P w K mg base "_law_share" k c__law_share) (C__law_mul : CalD P w K mg base "_law_mul" k c__law_mul) (C_are_chances : CalD P w K mg base "are_chances" k c_are_chances) (C_chance : CalD P w K mg base "chance" k c_chance) (C_mean : CalD P w K mg base "mean" k c_mean) (C__law_dot : CalD P w K mg base "_law_dot" k c__law_dot) (C_share_of : CalD P w K mg base "share_of" k c_share_of) (C__law_sum : CalD P w K mg base "_law_sum" k c__law_sum) (C__law_sub : CalD P w K mg base "_law_sub" k c__law_sub) (C__law_threshold : CalD P w K mg base "_law_threshold" k c__law_threshold) (C_worst_costs : CalD P w K mg base "worst_costs" k c_worst_costs) (C_worst_cost : CalD P w K mg base "worst_cost" k c_worst_cost) (C__law_add : CalD P w K mg base "_law_add" k c__law_add) (C__law_most : CalD P w K mg base "_law_most" k c__law_most) (C_greatest_from : CalD P w K mg base "greatest_from" k c_greatest_from) (C_greatest_cost : CalD P w K mg base "greatest_cost" k c_greatest_cost) (C__law_less : CalD P w K mg base "_law_less" k c__law_less) (C__law_over : CalD P w K mg base "_law_over" k c__law_over) (C_even : CalD P w K mg base "even" k c_even) (C_tilted : CalD P w K mg base "tilted" k c_tilted)  (len : ∀ ds Q, fs ds Q → ds.length = 1)
    (pure : ∀ ds Q, fs ds Q → b__law_trees c__law_line_house c__law_tree_of c__law_parts_of c__law_fr c__law_take c__law_share c__law_mul c_are_chances c_chance c_mean c__law_dot c_share_of c__law_sum c__law_sub c__law_threshold c_worst_costs c_worst_cost c__law_add c__law_most c_greatest_from c_greatest_cost c__law_less c__law_over c_even c_tilted { nx := fun _ => Q .non, rt := Q } (startD N__law_trees ds)) : CalD P w K mg base "_law_trees" (k + 1) fs := by
  obtain ⟨f, fd, F, hm⟩ := h
  exact ⟨f, fd, ["state"], fnD (m := b__law_trees c__law_line_house c__law_tree_of c__law_parts_of c__law_fr c__law_take c__law_share c__law_mul c_are_chances c_chance c_mean c__law_dot c_share_of c__law_sum c__law_sub c__law_threshold c_worst_costs c_worst_cost c__law_add c__law_most c_greatest_from c_greatest_cost c__law_less c__law_over c_even c_tilted) F S__law_trees len (fun cdv A outer s H E hr => (dss_cons (ds_set (i := 1) S__law_trees.nd rfl (by first | exact Or.inl rfl | exact Or.inr rfl) (de_call C__law_line_house hr (da_cons (de_var (pv 0)) (da_cons de_int da_nil)))) (dss_cons (ds_asg (de_tup (da_cons (de_call C__law_tree_of hr (da_cons (de_var (pv 1)) da_nil)) (da_cons (de_len Z.len (dq_of (de_dget (hu_of hr) (de_var (pv 1)) de_str))) da_nil))) (dg_tup rfl (dgs_cons (dg_name (pg_name (i := 2) S__law_trees.nd rfl (by first | exact Or.inl rfl | exact Or.inr rfl))) (dgs_cons (dg_name (pg_name (i := 3) S__law_trees.nd rfl (by first | exact Or.inl rfl | exact Or.inr rfl))) dgs_nil)))) (dss_cons (ds_set (i := 4) S__law_trees.nd rfl (by first | exact Or.inl rfl | exact Or.inr rfl) (de_tupO Z.tuple (dq_of (de_fz (df_lc (own := [("k", 5)]) rfl S__law_trees.nd (di_range1 Z.range (da_cons (de_var (pv 3)) da_nil)) (blkOk_by (by kernel_rfl)) (tgok_name (by decide)) (fun _ _ _ _ _ => (dg_name (pg_name (i := 5) S__law_trees.nd rfl (by first | exact Or.inl rfl | exact Or.inr rfl)))) (fun _ _ _ _ _ => dts_nil) (fun _ _ _ _ _ => (de_if (dt_ne hr.units (de_ix (dq_of (de_dget (hu_of hr) (de_var (pv 1)) de_str)) (de_var (pv 5))) (de_fz (df_lst da_nil))) (de_call C__law_parts_of hr (da_cons (de_var (pv 0)) (da_cons (de_len Z.len (dq_of (de_ix (dq_of (de_dget (hu_of hr) (de_var (pv 1)) de_str)) (de_var (pv 5))))) da_nil))) (de_tup da_nil)))))))) (dss_cons (ds_asg (de_tup (da_cons (de_tupO Z.tuple (dq_of (de_fz (df_lc (own := [("k", 5)]) rfl S__law_trees.nd (di_range1 Z.range (da_cons (de_var (pv 3)) da_nil)) (blkOk_by (by kernel_rfl)) (tgok_name (by decide)) (fun _ _ _ _ _ => (dg_name (pg_name (i := 5) S__law_trees.nd rfl (by first | exact Or.inl rfl | exact Or.inr rfl)))) (fun _ _ _ _ _ => dts_nil) (fun _ _ _ _ _ => (de_call C__law_fr hr (da_cons (de_sub (de_call C__law_take hr (da_cons (de_var (pv 0)) (da_cons de_int da_nil))) de_int) (da_cons (de_add de_int (de_call C__law_take hr (da_cons (de_var (pv 0)) (da_cons de_int da_nil)))) da_nil)))))))) (da_cons (de_call C__law_share hr (da_cons (de_var (pv 0)) da_nil)) da_nil))) (dg_tup rfl (dgs_cons (dg_name (pg_name (i := 6) S__law_trees.nd rfl (by first | exact Or.inl rfl | exact Or.inr rfl))) (dgs_cons (dg_name (pg_name (i := 7) S__law_trees.nd rfl (by first | exact Or.inl rfl | exact Or.inr rfl))) dgs_nil)))) (dss_cons (ds_setF (i := 8) S__law_trees.nd rfl (by first | exact Or.inl rfl | exact Or.inr rfl) (df_lst da_nil)) (dss_cons (ds_for PassesOwn.never rfl (di_range1 Z.range (da_cons (de_var (pv 3)) da_nil)) (dg_name (pg_name (i := 5) S__law_trees.nd rfl (by first | exact Or.inl rfl | exact Or.inr rfl))) (dss_cons (ds_set (i := 9) S__law_trees.nd rfl (by first | exact Or.inl rfl | exact Or.inr rfl) (de_ix (dq_of (de_ix (dq_of (de_dget (hu_of hr) (de_var (pv 1)) de_str)) (de_var (pv 5)))) de_int)) (dss_one (ds_app (pv 8) (de_if (dt_isN (de_var (pv 9)) de_non) (de_tup (da_cons de_int (da_cons de_int da_nil))) (de_call C__law_mul hr (da_cons (de_ix (dq_own (pv 8)) (de_var (pv 9))) (da_cons (de_ix (dq_of (de_ix (dq_of (de_var (pv 4))) (de_var (pv 9)))) (de_index (dq_of (de_ix (dq_of (de_dget (hu_of hr) (de_var (pv 1)) de_str)) (de_var (pv 9)))) (de_var (pv 5)))) da_nil)))))))) (dss_give 8 (dss_cons (ds_if (dt_w (dw_or (dt_isNotB (de_call C_are_chances hr (da_cons (de_var (pv 2)) (da_cons (de_var (pv 4)) da_nil))) de_bl) (dw_or (dt_ne hr.units (de_fz (df_lc (own := [("k", 5)]) rfl S__law_trees.nd (di_range1 Z.range (da_cons (de_var (pv 3)) da_nil)) (blkOk_by (by kernel_rfl)) (tgok_name (by decide)) (fun _ _ _ _ _ => (dg_name (pg_name (i := 5) S__law_trees.nd rfl (by first | exact Or.inl rfl | exact Or.inr rfl)))) (fun _ _ _ _ _ => dts_nil) (fun _ _ _ _ _ => (de_call C_chance hr (da_cons (de_var (pv 2)) (da_cons (de_var (pv 4)) (da_cons (de_var (pv 5)) da_nil))))))) (de_var (pv 8))) (dw_or1 (dt_ne hr.units (de_call C_mean hr (da_cons (de_var (pv 2)) (da_cons (de_var (pv 4)) (da_cons (de_var (pv 6)) da_nil)))) (de_call C__law_dot hr (da_cons (de_var (pv 6)) (da_cons (de_var (pv 8)) da_nil)))))))) (dss_one (ds_ret de_bl)) dss_nil) (dss_cons (ds_lc (ps_lcS (i := 10) (own := [("k", 5)]) rfl S__law_trees.nd rfl rfl (sw_true rfl rfl rfl (by decide +kernel)) (di_range1 Z.range (da_cons (de_var (pv 3)) da_nil)) (blkOk_by (by kernel_rfl)) (tgok_name (by decide)) (fun _ _ _ _ _ => (dg_name (pg_name (i := 5) S__law_trees.nd rfl (by first | exact Or.inl rfl | exact Or.inr rfl)))) (fun _ _ _ _ _ => (dts_one (dt_eq hr.units (de_ix (dq_of (de_dget (hu_of hr) (de_var (pv 1)) de_str)) (de_var (pv 5))) (de_fz (df_lst da_nil))))) (fun _ _ _ _ _ => (de_var (pv 5))))) (dss_cons (ds_lc (ps_lcS (i := 11) (own := [("k", 5)]) rfl S__law_trees.nd rfl rfl (sw_true rfl rfl rfl (by decide +kernel)) (di_seq (dq_of (de_var (pv 10)))) (blkOk_by (by kernel_rfl)) (tgok_name (by decide)) (fun _ _ _ _ _ => (dg_name (pg_name (i := 5) S__law_trees.nd rfl (by first | exact Or.inl rfl | exact Or.inr rfl)))) (fun _ _ _ _ _ => (dts_one (dt_eq hr.units (de_call C__law_take hr (da_cons (de_var (pv 0)) (da_cons de_int da_nil))) de_int))) (fun _ _ _ _ _ => (de_var (pv 5))))) (dss_cons (ds_if (dt_w (dw_or (dt_ne hr.units (de_call C_share_of hr (da_cons (de_var (pv 2)) (da_cons (de_var (pv 4)) (da_cons (de_var (pv 11)) da_nil)))) (de_call C__law_sum hr (da_cons (de_fz (df_lc (own := [("k", 5)]) rfl S__law_trees.nd (di_seq (dq_of (de_var (pv 11)))) (blkOk_by (by kernel_rfl)) (tgok_name (by decide)) (fun _ _ _ _ _ => (dg_name (pg_name (i := 5) S__law_trees.nd rfl (by first | exact Or.inl rfl | exact Or.inr rfl)))) (fun _ _ _ _ _ => dts_nil) (fun _ _ _ _ _ => (de_ix (dq_of (de_var (pv 8))) (de_var (pv 5)))))) da_nil))) (dw_or1 (dt_ne hr.units (de_call C_share_of hr (da_cons (de_var (pv 2)) (da_cons (de_var (pv 4)) (da_cons (de_var (pv 10)) da_nil)))) (de_tup (da_cons de_int (da_cons de_int da_nil))))))) (dss_one (ds_ret de_bl)) dss_nil) (dss_cons (ds_newT (i := 12) S__law_trees.nd rfl (by first | exact Or.inl rfl | exact Or.inr rfl)) (dss_cons (ds_for PassesOwn.never rfl (di_seq (dq_of (de_tup (da_cons (de_var (pv 7)) (da_cons (de_tupF (da_cons de_int (da_cons de_int da_nil))) (da_cons (de_tupF (da_cons de_int (da_cons de_int da_nil))) da_nil)))))) (dg_name (pg_name (i := 13) S__law_trees.nd rfl (by first | exact Or.inl rfl | exact Or.inr rfl))) (dss_cons (ds_setF (i := 14) S__law_trees.nd rfl (by first | exact Or.inl rfl | exact Or.inr rfl) (df_repL (de_fz (df_lst (da_cons de_non da_nil))) (de_var (pv 3)))) (dss_cons (ds_for PassesOwn.never rfl (di_range3 Z.range (da_cons (de_sub (de_var (pv 3)) de_int) (da_cons (de_neg de_int) (da_cons (de_neg de_int) da_nil)))) (dg_name (pg_name (i := 5) S__law_trees.nd rfl (by first | exact Or.inl rfl | exact Or.inr rfl))) (dss_cons (ds_setIx (pv 14) (de_var (pv 5)) (de_ix (dq_of (de_var (pv 6))) (de_var (pv 5)))) (dss_one (ds_if (dt_ne hr.units (de_ix (dq_of (de_dget (hu_of hr) (de_var (pv 1)) de_str)) (de_var (pv 5))) (de_fz (df_lst da_nil))) (dss_cons (ds_lc (ps_lcS (i := 15) (own := [("j", 16)]) rfl S__law_trees.nd rfl rfl (sw_true rfl rfl rfl (by decide +kernel)) (di_seq (dq_of (de_ix (dq_of (de_dget (hu_of hr) (de_var (pv 1)) de_str)) (de_var (pv 5))))) (blkOk_by (by kernel_rfl)) (tgok_name (by decide)) (fun _ _ _ _ _ => (dg_name (pg_name (i := 16) S__law_trees.nd rfl (by first | exact Or.inl rfl | exact Or.inr rfl)))) (fun _ _ _ _ _ => dts_nil) (fun _ _ _ _ _ => (de_call C__law_sub hr (da_cons (de_tup (da_cons de_int (da_cons de_int da_nil))) (da_cons (de_ix (dq_own (pv 14)) (de_var (pv 16))) da_nil)))))) (dss_one (ds_setIx (pv 14) (de_var (pv 5)) (de_call C__law_sub hr (da_cons (de_ix (dq_of (de_var (pv 6))) (de_var (pv 5))) (da_cons (de_call C__law_threshold hr (da_cons (de_var (pv 15)) (da_cons (de_ix (dq_of (de_var (pv 4))) (de_var (pv 5))) (da_cons (de_weak (de_var (pv 13))) da_nil)))) da_nil)))))) dss_nil)))) (dss_give 14 (dss_cons (ds_if (dt_w (dw_or (dt_ne hr.units (de_fz (df_lstO Z.list (dq_of (de_call C_worst_costs hr (da_cons (de_var (pv 2)) (da_cons (de_var (pv 4)) (da_cons (de_weak (de_var (pv 13))) (da_cons (de_var (pv 6)) da_nil)))))))) (de_var (pv 14))) (dw_or1 (dt_ne hr.units (de_call C_worst_cost hr (da_cons (de_var (pv 2)) (da_cons (de_var (pv 4)) (da_cons (de_weak (de_var (pv 13))) (da_cons (de_var (pv 6)) da_nil))))) (de_ix (dq_of (de_var (pv 14))) de_int))))) (dss_one (ds_ret de_bl)) dss_nil) (dss_one (ds_putT (hu_of hr) (pv 12) (de_var (pv 13)) (de_ix (dq_of (de_var (pv 14))) de_int)))))))) (dss_cons (ds_setF (i := 17) S__law_trees.nd rfl (by first | exact Or.inl rfl | exact Or.inr rfl) (df_repL (de_fz (df_lst (da_cons de_non da_nil))) (de_var (pv 3)))) (dss_cons (ds_for PassesOwn.never rfl (di_range3 Z.range (da_cons (de_sub (de_var (pv 3)) de_int) (da_cons (de_neg de_int) (da_cons (de_neg de_int) da_nil)))) (dg_name (pg_name (i := 5) S__law_trees.nd rfl (by first | exact Or.inl rfl | exact Or.inr rfl))) (dss_one (ds_setIx (pv 17) (de_var (pv 5)) (de_call C__law_add hr (da_cons (de_ix (dq_of (de_var (pv 6))) (de_var (pv 5))) (da_cons (de_if (dt_ne hr.units (de_ix (dq_of (de_dget (hu_of hr) (de_var (pv 1)) de_str)) (de_var (pv 5))) (de_fz (df_lst da_nil))) (de_call C__law_most hr (da_cons (de_fz (df_lc (own := [("j", 16)]) rfl S__law_trees.nd (di_seq (dq_of (de_ix (dq_of (de_dget (hu_of hr) (de_var (pv 1)) de_str)) (de_var (pv 5))))) (blkOk_by (by kernel_rfl)) (tgok_name (by decide)) (fun _ _ _ _ _ => (dg_name (pg_name (i := 16) S__law_trees.nd rfl (by first | exact Or.inl rfl | exact Or.inr rfl)))) (fun _ _ _ _ _ => dts_nil) (fun _ _ _ _ _ => (de_ix (dq_own (pv 17)) (de_var (pv 16)))))) da_nil)) (de_tup (da_cons de_int (da_cons de_int da_nil)))) da_nil)))))) (dss_give 17 (dss_cons (ds_if (dt_w (dw_or (dt_ne hr.units (de_fz (df_lc (own := [("k", 5)]) rfl S__law_trees.nd (di_range1 Z.range (da_cons (de_var (pv 3)) da_nil)) (blkOk_by (by kernel_rfl)) (tgok_name (by decide)) (fun _ _ _ _ _ => (dg_name (pg_name (i := 5) S__law_trees.nd rfl (by first | exact Or.inl rfl | exact Or.inr rfl)))) (fun _ _ _ _ _ => dts_nil) (fun _ _ _ _ _ => (de_call C_greatest_from hr (da_cons (de_var (pv 2)) (da_cons (de_var (pv 6)) (da_cons (de_var (pv 5)) da_nil))))))) (de_var (pv 17))) (dw_or1 (dt_ne hr.units (de_call C_greatest_cost hr (da_cons (de_var (pv 2)) (da_cons (de_var (pv 6)) da_nil))) (de_ix (dq_of (de_var (pv 17))) de_int))))) (dss_one (ds_ret de_bl)) dss_nil) (dss_cons (ds_if (dt_w (dw_or (dt_ne hr.units (de_getT (hu_of hr) (pv 12) (de_tupF (da_cons de_int (da_cons de_int da_nil)))) (de_call C__law_dot hr (da_cons (de_var (pv 6)) (da_cons (de_var (pv 8)) da_nil)))) (dw_or (dt_ne hr.units (de_getT (hu_of hr) (pv 12) (de_tupF (da_cons de_int (da_cons de_int da_nil)))) (de_ix (dq_of (de_var (pv 17))) de_int)) (dw_or (dt_val (de_call C__law_less hr (da_cons (de_getT (hu_of hr) (pv 12) (de_var (pv 7))) (da_cons (de_getT (hu_of hr) (pv 12) (de_tupF (da_cons de_int (da_cons de_int da_nil)))) da_nil)))) (dw_or1 (dt_val (de_call C__law_less hr (da_cons (de_ix (dq_of (de_var (pv 17))) de_int) (da_cons (de_getT (hu_of hr) (pv 12) (de_var (pv 7))) da_nil))))))))) (dss_one (ds_ret de_bl)) dss_nil) (dss_cons (ds_set (i := 18) S__law_trees.nd rfl (by first | exact Or.inl rfl | exact Or.inr rfl) (de_tupO Z.tuple (dq_of (de_fz (df_lc (own := [("kids", 19)]) rfl S__law_trees.nd (di_seq (dq_of (de_dget (hu_of hr) (de_var (pv 1)) de_str))) (blkOk_by (by kernel_rfl)) (tgok_name (by decide)) (fun _ _ _ _ _ => (dg_name (pg_name (i := 19) S__law_trees.nd rfl (by first | exact Or.inl rfl | exact Or.inr rfl)))) (fun _ _ _ _ _ => dts_nil) (fun _ _ _ _ _ => (de_tupO Z.tuple (dq_of (de_fz (df_repL (de_fz (df_lst (da_cons (de_tup (da_cons de_int (da_cons (de_len Z.len (dq_of (de_var (pv 19)))) da_nil))) da_nil))) (de_len Z.len (dq_of (de_var (pv 19)))))))))))))) (dss_cons (ds_set (i := 20) S__law_trees.nd rfl (by first | exact Or.inl rfl | exact Or.inr rfl) (de_tupO Z.tuple (dq_of (de_fz (df_lc (own := [("k", 5)]) rfl S__law_trees.nd (di_range1 Z.range (da_cons (de_var (pv 3)) da_nil)) (blkOk_by (by kernel_rfl)) (tgok_name (by decide)) (fun _ _ _ _ _ => (dg_name (pg_name (i := 5) S__law_trees.nd rfl (by first | exact Or.inl rfl | exact Or.inr rfl)))) (fun _ _ _ _ _ => dts_nil) (fun _ _ _ _ _ => (de_tupO Z.tuple (dq_of (de_fz (df_lc (own := [("j", 16)]) rfl S__law_trees.nd (di_range1 Z.range (da_cons (de_len Z.len (dq_of (de_ix (dq_of (de_var (pv 18))) (de_var (pv 5))))) da_nil)) (blkOk_by (by kernel_rfl)) (tgok_name (by decide)) (fun _ _ _ _ _ => (dg_name (pg_name (i := 16) S__law_trees.nd rfl (by first | exact Or.inl rfl | exact Or.inr rfl)))) (fun _ _ _ _ _ => dts_nil) (fun _ _ _ _ _ => (de_call C__law_over hr (da_cons (de_ix (dq_of (de_ix (dq_of (de_var (pv 18))) (de_var (pv 5)))) (de_var (pv 16))) (da_cons (de_ix (dq_of (de_ix (dq_of (de_var (pv 4))) (de_var (pv 5)))) (de_var (pv 16))) da_nil)))))))))))))) (dss_cons (ds_if (dt_w (dw_or (dt_ne hr.units (de_tupO Z.tuple (dq_of (de_call C_even hr (da_cons (de_var (pv 2)) da_nil)))) (de_var (pv 18))) (dw_or1 (dt_ne hr.units (de_tupO Z.tuple (dq_of (de_call C_tilted hr (da_cons (de_var (pv 2)) (da_cons (de_var (pv 4)) (da_cons (de_var (pv 18)) da_nil)))))) (de_var (pv 20)))))) (dss_one (ds_ret de_bl)) dss_nil) (dss_cons (ds_lc (ps_lcS (i := 21) (own := [("k", 5)]) rfl S__law_trees.nd rfl rfl (sw_true rfl rfl rfl (by decide +kernel)) (di_range1 Z.range (da_cons (de_var (pv 3)) da_nil)) (blkOk_by (by kernel_rfl)) (tgok_name (by decide)) (fun _ _ _ _ _ => (dg_name (pg_name (i := 5) S__law_trees.nd rfl (by first | exact Or.inl rfl | exact Or.inr rfl)))) (fun _ _ _ _ _ => (dts_one (dt_ne hr.units (de_ix (dq_of (de_dget (hu_of hr) (de_var (pv 1)) de_str)) (de_var (pv 5))) (de_fz (df_lst da_nil))))) (fun _ _ _ _ _ => (de_var (pv 5))))) (dss_cons (ds_set (i := 5) S__law_trees.nd rfl (by first | exact Or.inl rfl | exact Or.inr rfl) (de_ix (dq_of (de_var (pv 21))) (de_call C__law_take hr (da_cons (de_var (pv 0)) (da_cons (de_len Z.len (dq_of (de_var (pv 21)))) da_nil))))) (dss_cons (ds_set (i := 22) S__law_trees.nd rfl (by first | exact Or.inl rfl | exact Or.inr rfl) (de_len Z.len (dq_of (de_ix (dq_of (de_dget (hu_of hr) (de_var (pv 1)) de_str)) (de_var (pv 5)))))) (dss_cons (ds_for PassesOwn.never rfl (di_seq (dq_of (de_tup (da_cons (de_tupO Z.tuple (dq_of (de_fz (df_repL (de_fz (df_lst (da_cons (de_tup (da_cons de_int (da_cons de_int da_nil))) da_nil))) (de_var (pv 22)))))) (da_cons (de_repT (de_tup (da_cons (de_tup (da_cons de_int (da_cons de_int da_nil))) da_nil)) (de_var (pv 22))) (da_cons (de_tup da_nil) (da_cons (de_tupO Z.tuple (dq_of (de_fz (df_repL (de_fz (df_lst (da_cons (de_tup (da_cons de_int (da_cons (de_add (de_var (pv 22)) de_int) da_nil))) da_nil))) (de_var (pv 22)))))) da_nil))))))) (dg_name (pg_name (i := 23) S__law_trees.nd rfl (by first | exact Or.inl rfl | exact Or.inr rfl))) (dss_one (ds_if (dt_isNotB (de_call C_are_chances hr (da_cons (de_var (pv 2)) (da_cons (de_catT (de_catT (de_slT (de_var (pv 4)) dp_none (dp_some (de_var (pv 5)))) (de_tup (da_cons (de_var (pv 23)) da_nil))) (de_slT (de_var (pv 4)) (dp_some (de_add (de_var (pv 5)) de_int)) dp_none)) da_nil))) de_bl) (dss_one (ds_ret de_bl)) dss_nil))) (dss_one (ds_ret (de_and (de_isB (de_call C_are_chances hr (da_cons (de_var (pv 2)) (da_cons (de_slT (de_var (pv 4)) dp_none (dp_some (de_neg de_int))) da_nil))) de_bl) (de_one (de_isB (de_call C_are_chances hr (da_cons (de_var (pv 2)) (da_cons de_non da_nil))) de_bl))))))))))))))))))))))))))))))) pure, hm, F.kp, F.bindsN fun _ _ _ _ _ _ us hl => match us, hl with | [_], _ => rfl⟩
end
end DL
set_option Elab.async false
set_option linter.all false
set_option autoImplicit false
set_option maxRecDepth 100000
set_option maxHeartbeats 2000000
namespace DL
open PySem PySem.Spec
open PyProof.Rows hiding St
open L2
section
variable {P : Program} {w : World} {K : PySem.W.Frag} {mg : Str → Option Value} {base : Heap}
/-- what a draw is: below its bound, from 0 on -/
def fTake : FS := fun ds Q => ∃ n : Int, ds = [.tok, .int n] ∧ n < 1000000000 ∧ ∀ r : Int, (n < 2 → r = 0) → (2 ≤ n → 0 ≤ r ∧ r < n) → Q (.int r)
abbrev N__law_take : List Str := ["state", "most", "cells", "at", "cell", "mixed"]
theorem S__law_take : FnScope N__law_take ["state", "most"] (defScope (top 35)) := ⟨rfl, rfl, rfl, by decide +kernel, rfl, by decide +kernel, by decide +kernel⟩
theorem atI_int {ns : List Int} {k : Int} (h0 : 0 ≤ k) (h : k < (ns.length : Int)) : ∃ v : Int, atI (ns.map V.int) k = some (.int v) ∧ v ∈ ns := by
  have hk : k.toNat < ns.length := by omega
  have ek : k = ((k.toNat : Nat) : Int) := by omega
  have q : atI (ns.map V.int) ((k.toNat : Nat) : Int) = some (.int ns[k.toNat]) := atI_nat (by rw [List.getElem?_map, List.getElem?_eq_getElem hk] <;> rfl)
  rw [← ek] at q
  exact ⟨_, q, List.getElem_mem hk⟩
theorem ixN_ok {n : Nat} {k : Int} (h0 : 0 ≤ k) (h : k < (n : Int)) : ixN n k = some k.toNat := by
  unfold ixN
  rw [if_pos h0, if_pos h]
theorem k__law_take {k : Nat} (h : Has K mg "_law_take" 35) (Z : Bi mg) : CalD P w K mg base "_law_take" (k + 1) fTake := by
  obtain ⟨f, fd, F, hm⟩ := h
  refine ⟨f, fd, ["state", "most"], F.ok S__law_take (fun vs H Q E h => ?_) (fun cdv A outer s H vs Q E hr h => ?_), hm, F.kp, F.bindsN fun _ _ _ _ _ _ us hl => match us, hl with | [_, _], _ => rfl⟩
  · obtain ⟨s, c, F, ds, Qd, tk, h1, h2, h3, h4, ⟨n, rfl, _⟩, _⟩ := h
    rw [h4.length]; rfl
  obtain ⟨s, c, F, ds, Qd, tk, h1, h2, h3, h4, ⟨n, rfl, hn, hq⟩, h6⟩ := h
  obtain ⟨v, w, rfl, p1, p2⟩ := h4.two
  cases p1
  cases p2
  obtain ⟨k0, cells, t1, t2, t3, t4, t5, t6⟩ := tk.ex
  have nsc : s ≠ c := tk.ne
  have fin : ∀ (k1 : Int) (cells1 : List Int) (H' : Hp) (r : Int), H' s = some (.lst [.int k1, .ref c]) → H' c = some (.lst (cells1.map V.int)) → 0 ≤ k1 → cells1.length = cells.length → (∀ z ∈ cells1, 0 ≤ z) → (∀ a o, a ≠ s → a ≠ c → H a = some o → H' a = some o) →
      (n < 2 → r = 0) → (2 ≤ n → 0 ≤ r ∧ r < n) → Q (.int r) H' := by
    intro k1 cells1 H' r e1 e2 e3 e4 e5 e6 e7 e8
    refine h6 (.int r) F H' (.int r) e6 ⟨nsc, k1, cells1, e1, e2, e3, by omega, by omega, e5⟩ (fun _ _ z => z) (fun a o z => .inl z) (fun a o z => ?_) h2 h3 (.int r) (hq r e7 e8)
    refine e6 a o (fun y => ?_) (fun y => ?_) (h1 a o z)
    · rw [y, h2] at z; cases z
    · rw [y, h3] at z; cases z
  refine ⟨_, pss_cons (ps_if (pt_cmpR op_lt (pv 1) pe_int (nomark _)) (pss_one (ps_ret pe_int)) pss_nil)
    (pss_cons (ps_set (i := 2) S__law_take.nd rfl (Or.inl rfl) (pe_ix ix_list (pv 0) pe_int (fun _ _ => rfl)))
    (pss_cons (ps_set (i := 3) S__law_take.nd rfl (Or.inl rfl) (pe_op op_mod (pe_callTy call_int1 rfl Z.int (by decide +kernel) (pa_cons (pe_ix ix_list (pv 0) pe_int (fun _ _ => rfl)) pa_nil)) (pe_callB call_len_seq rfl Z.len PySem.boot_len (pa_cons (pv 2) pa_nil))))
    (pss_cons (ps_set (i := 4) S__law_take.nd rfl (Or.inl rfl) (pe_ix ix_list (pv 2) (pv 3) (fun _ _ => rfl)))
    (pss_cons (ps_if (pt_cmpR op_ge (pv 4) pe_int (nomark _))
      (pss_cons (ps_asg (pe_op op_fdiv (pv 4) (pv 1)) (pg_sub (pv 2) (pv 3) set_list))
        (pss_one (ps_ret (pe_op op_mod (pe_callTy call_int1 rfl Z.int (by decide +kernel) (pa_cons (pv 4) pa_nil)) (pv 1))))) pss_nil)
    (pss_cons (ps_asg (pe_op op_add (pe_ix ix_list (pv 0) pe_int (fun _ _ => rfl)) pe_int) (pg_sub (pv 0) pe_int set_list))
    (pss_cons (ps_set (i := 5) S__law_take.nd rfl (Or.inl rfl) (pe_op op_mod (pe_callTy call_int1 rfl Z.int (by decide +kernel) (pa_cons (pe_op op_add (pe_op op_mul (pv 4) pe_int) (pe_op op_mul (pe_ix ix_list (pv 0) pe_int (fun _ _ => rfl)) pe_int)) pa_nil)) pe_int))
    (pss_cons (ps_set (i := 5) S__law_take.nd rfl (Or.inl rfl) (pe_op op_mod (pe_callTy call_int1 rfl Z.int (by decide +kernel) (pa_cons (pe_op op_add (pe_op op_mul (pv 5) pe_int) (pe_op op_mul (pe_ix ix_list (pv 0) pe_int (fun _ _ => rfl)) pe_int)) pa_nil)) pe_int))
    (pss_one (ps_ret (pe_op op_mod (pe_callTy call_int1 rfl Z.int (by decide +kernel) (pa_cons (pe_op op_fdiv (pv 5) pe_int) pa_nil)) (pv 1)))))))))))
    |> PSs.nox, ?_⟩
  refine ⟨_, rfl, _, _, rfl, rfl, _, rfl, ?_⟩
  refine ite2 (fun e => ?_) (fun e => ?_)
  · have e : n < 2 := of_decide_eq_true e
    exact fin k0 cells H 0 t1 t2 t3 rfl t6 (fun _ _ _ _ z => z) (fun _ => rfl) (fun z => absurd e (by omega))
  have e : ¬ n < 2 := of_decide_eq_false (Bool.eq_false_iff.mpr e)
  have hlen : (cells.map V.int).length = cells.length := List.length_map _
  have hp : (0 : Int) < ((cells.map V.int).length : Nat) := by rw [hlen]; omega
  refine ⟨_, rfl, s, _, _, _, rfl, rfl, SqL.of t1, atI_nat (j := 1) rfl, ?_⟩
  refine ⟨_, rfl, s, _, _, _, rfl, rfl, SqL.of t1, atI_nat (j := 0) rfl, .inl ⟨_, rfl, _, rfl, c, _, rfl, .inl (SqL.of t2), _, _, rfl, rfl, hp, ?_⟩⟩
  have hi0 : 0 ≤ k0 % ((cells.map V.int).length : Nat) := Int.emod_nonneg _ (by omega)
  have hi1 : k0 % ((cells.map V.int).length : Nat) < ((cells.map V.int).length : Nat) := Int.emod_lt_of_pos _ hp
  obtain ⟨v, hv, hvm⟩ := atI_int (ns := cells) hi0 (by rw [← hlen]; exact hi1)
  have v0 := t6 v hvm
  refine ⟨_, rfl, _, rfl, c, _, _, _, rfl, rfl, SqL.of t2, hv, _, rfl, _, _, rfl, rfl, _, rfl, ?_⟩
  refine ite2 (fun e2 => ?_) (fun e2 => ?_)
  · have e2 : (1000000000000000000 : Int) ≤ v := of_decide_eq_true e2
    refine ⟨_, rfl, _, rfl, _, _, rfl, rfl, ⟨by omega, by omega⟩, _, rfl, _, rfl, c, _, _, _, rfl, rfl, t2, ixN_ok hi0 hi1, ?_⟩
    refine ⟨_, rfl, .inl ⟨_, rfl, _, rfl, _, _, rfl, rfl, (by omega : (0 : Int) < n), ?_⟩⟩
    refine fin k0 (cells.set (k0 % ((cells.map V.int).length : Nat)).toNat (v / n)) _ _ (by rw [upd_ne nsc]; exact t1) (by rw [upd_same, List.map_set]) t3 (by simp) (fun z hz => ?_) (fun a o n1 n2 q => by rw [upd_ne n2]; exact q) (fun z => absurd z e) (fun _ => ⟨Int.emod_nonneg _ (by omega), Int.emod_lt_of_pos _ (by omega)⟩)
    rcases List.mem_or_eq_of_mem_set hz with z1 | z1
    · exact t6 z z1
    · rw [z1]; exact Int.ediv_nonneg v0 (by omega)
  · have hs2 : ∀ {o : HO}, upd H s o c = H c := fun {o} => upd_ne (Ne.symm nsc)
    refine ⟨_, rfl, s, _, _, _, rfl, rfl, SqL.of t1, atI_nat (j := 0) rfl, _, _, rfl, rfl, _, rfl, s, _, _, _, rfl, rfl, t1, ixN_ok (n := 2) (k := 0) (by omega) (by omega), ?_⟩
    have t1' : upd H s (.lst (([.int k0, .ref c] : List V).set (0 : Int).toNat (.int (k0 + 1)))) s = some (.lst [.int (k0 + 1), .ref c]) := upd_same
    refine ⟨_, rfl, _, _, rfl, rfl, .inr ⟨by omega, by omega⟩, _, rfl, s, _, _, _, rfl, rfl, SqL.of t1', atI_nat (j := 0) rfl, _, _, rfl, rfl, .inr ⟨by omega, by omega⟩, _, _, rfl, rfl, .inl ⟨_, rfl, _, _, rfl, rfl, (by omega : (0 : Int) < 2147483647), ?_⟩⟩
    refine ⟨_, rfl, _, _, rfl, rfl, .inr ⟨by omega, by omega⟩, _, rfl, s, _, _, _, rfl, rfl, SqL.of t1', atI_nat (j := 0) rfl, _, _, rfl, rfl, .inr ⟨by omega, by omega⟩, _, _, rfl, rfl, .inl ⟨_, rfl, _, _, rfl, rfl, (by omega : (0 : Int) < 1000000007), ?_⟩⟩
    refine ⟨_, rfl, _, _, rfl, rfl, ⟨by omega, by omega⟩, .inl ⟨_, rfl, _, rfl, _, _, rfl, rfl, (by omega : (0 : Int) < n), ?_⟩⟩
    exact fin (k0 + 1) cells _ _ t1' (by rw [hs2]; exact t2) (by omega) rfl t6 (fun a o n1 n2 q => by rw [upd_ne n1]; exact q) (fun z => absurd z e) (fun _ => ⟨Int.emod_nonneg _ (by omega), Int.emod_lt_of_pos _ (by omega)⟩)
end
end DL
set_option Elab.async false
set_option linter.all false
set_option autoImplicit false
set_option maxRecDepth 100000
namespace DL
open PySem PySem.Spec
open PyProof.Rows hiding St
open L2

/-! ## rational numbers as pairs -/
def encQ (q : Rat) : D := .tup [.int q.num, .int (q.den : Int)]
/-- n bits are enough -/
def Sz (n : Nat) (q : Rat) : Prop := q.num.natAbs < 2 ^ n ∧ q.den < 2 ^ n
theorem pow_lt_pow2 {a b : Nat} (h : a ≤ b) : 2 ^ a ≤ 2 ^ b := Nat.pow_le_pow_right (by decide) h
theorem Sz.mono {n m : Nat} {q : Rat} (h : Sz n q) (k : n ≤ m) : Sz m q := ⟨Nat.lt_of_lt_of_le h.1 (pow_lt_pow2 k), Nat.lt_of_lt_of_le h.2 (pow_lt_pow2 k)⟩
theorem Sz.pos {n : Nat} {q : Rat} (h : Sz n q) : 0 < n := by
  cases n with
  | zero =>
    have := h.2
    have := q.den_pos
    omega
  | succ n => omega
/-- the pair that part(a, b) is -/
theorem encQ_divInt {a b : Int} (hb : 0 < b) : encQ (Rat.divInt a b) = .tup [.int (a / (Int.gcd a b : Int)), .int (b / (Int.gcd a b : Int))] := by
  unfold encQ
  have e1 : (Rat.divInt a b).num = a / (Int.gcd a b : Int) := by
    rw [Rat.num_divInt, Int.sign_eq_one_of_pos hb, Int.one_mul, Int.gcd_comm]
  have e2 : ((Rat.divInt a b).den : Int) = b / (Int.gcd a b : Int) := by
    rw [Rat.den_divInt, if_neg (by omega), Int.gcd_comm]
    have : (b.natAbs : Int) = b := by omega
    rw [Int.natCast_ediv, this]
  rw [e1, e2]
theorem divInt_sz {a b : Int} {n : Nat} (hb : b ≠ 0) (h1 : a.natAbs < 2 ^ n) (h2 : b.natAbs < 2 ^ n) : Sz n (Rat.divInt a b) := by
  constructor
  · rw [Rat.num_divInt]
    refine Nat.lt_of_le_of_lt ?_ h1
    refine Nat.le_trans (Int.natAbs_ediv_le_natAbs _ _) ?_
    rw [Int.natAbs_mul]
    have : b.sign.natAbs = 1 := by
      rw [Int.natAbs_sign]; simp [hb]
    rw [this, Nat.one_mul]; exact Nat.le_refl _
  · rw [Rat.den_divInt, if_neg hb]
    exact Nat.lt_of_le_of_lt (Nat.div_le_self _ _) h2
local macro_rules | `(tactic| lcg_off) => `(tactic| simp only [mVar, mC, mNil, mCons, mTup, mTupF, mLst, mFz, mOp, oI0, oI, oEq, oNe, oIsN, oNotN, oIsB, oIsNotB, oCatT, oCatL, oRepT, mRepL, mIx, mSq, mOwn, mTst, mAnd, mOr, mNot, mAndV, mOrV, mNotV, mIf, mNeg, mCall, mCB, cAbs, cInt, mLen, mTupO, mLstO, mLrg1, mSum, mAny, mAll, mIndex, mNoP, mPart, mSlT, mSlL, mIsi, mDGet, mDisp, mPairs, mWeak, mSeqI, mRange1, mRange2, mYes, gNm, gTupD, gConsD, gNilD, mLc, mNext, mSeq, mBreak, mCont, mAsg, mSet, mSetOw, mPar, mPar3, mParO, mParO1, mParOO, mDrop, mRet, mRetN, mIfS, mGive, mApp, mSetIx, mIns, mRem, isOw, onOw, mEqQ, mNeQ, mNewT, mPutT, onDt, mGetT, mFor, startD, List.map_cons, List.map_nil, List.length_cons, List.length_nil, List.cons_append, List.nil_append, List.getElem?_cons_zero, List.getElem?_cons_succ, List.set_cons_zero, List.set_cons_succ, List.replicate_succ, List.replicate_zero, Nat.reduceAdd, Nat.reduceSub, Nat.zero_add, Nat.sub_self, decide_eq_true_eq, Bool.not_eq_true, Bool.not_eq_eq_eq_not, if_true, if_false, ite_true, ite_false, Bool.false_eq_true, noOw, wipeD, List.all_cons, List.all_nil, Bool.and_true, true_and, and_true, D.isNon, Bool.not_true, Bool.not_false])
/-! ## loops over data -/
theorem forD_inv {o : Option (Nat × Addr)} {all : List D} {tg : GD} {body : SD} {De : EndsD} (I : List D → En → Prop)
    (h : ∀ x rest G (k : En → Prop), (∀ G2, I rest G2 → k G2) → I (x :: rest) G → guardD o all G ∧ tg x G fun G1 => body { nx := k, rt := De.rt, bk := De.nx, ct := k } G1)
    (he : ∀ G, I [] G → guardD o all G ∧ De.nx G) : ∀ xs G, I xs G → forD o all tg body De xs G
  | [], G, hi => he G hi
  | x :: xs, G, hi => h x xs G _ (fun G2 h2 => forD_inv I h he xs G2 h2) hi
theorem compD_fm {G : En} {tg : GD} {mt : BD} {me : ED} (p : D → Bool) (f : D → D) : ∀ (xs acc : List D) (Q : List D → Prop),
    (∀ x ∈ xs, ∀ (k : D → Prop) (k0 : Prop), (p x = true → k (f x)) → (p x = false → k0) → tg x G fun G1 => mt G1 fun c => if c = true then me G1 k else k0) → Q (acc ++ (xs.filter p).map f) → compD G tg mt me xs acc Q
  | [], acc, Q, _, hq => by
    rw [List.filter_nil, List.map_nil, List.append_nil] at hq
    exact hq
  | x :: xs, acc, Q, h, hq => by
    refine h x List.mem_cons_self _ _ (fun hp => ?_) (fun hp => ?_)
    · refine compD_fm p f xs (acc ++ [f x]) Q (fun y hy => h y (List.mem_cons_of_mem _ hy)) ?_
      rw [List.filter_cons_of_pos hp, List.map_cons] at hq
      rw [List.append_assoc]
      exact hq
    · refine compD_fm p f xs acc Q (fun y hy => h y (List.mem_cons_of_mem _ hy)) ?_
      rw [List.filter_cons_of_neg (by rw [hp]; exact Bool.false_ne_true)] at hq
      exact hq
theorem compD_map {G : En} {tg : GD} {me : ED} (f : D → D) (xs acc : List D) (Q : List D → Prop)
    (h : ∀ x ∈ xs, ∀ (k : D → Prop), k (f x) → tg x G fun G1 => me G1 k) (hq : Q (acc ++ xs.map f)) : compD G tg mYes me xs acc Q := by
  refine compD_fm (fun _ => true) f xs acc Q (fun x hx k k0 h1 _ => ?_) ?_
  · have := h x hx k (h1 rfl)
    simpa [mYes] using this
  · have e : xs.filter (fun _ => true) = xs := List.filter_eq_self.mpr (fun _ _ => rfl)
    rw [e]; exact hq
/-- element by element -/
inductive All2 {α β : Type} (R : α → β → Prop) : List α → List β → Prop
  | nil : All2 R [] []
  | cons {a : α} {b : β} {as : List α} {bs : List β} : R a b → All2 R as bs → All2 R (a :: as) (b :: bs)
theorem compD_rel {G : En} {tg : GD} {me : ED} (R : D → D → Prop) : ∀ (xs acc : List D) (Q : List D → Prop),
    (∀ x ∈ xs, ∀ (k : D → Prop), (∀ d, R x d → k d) → tg x G fun G1 => me G1 k) → (∀ ds, All2 R xs ds → Q (acc ++ ds)) → compD G tg mYes me xs acc Q
  | [], acc, Q, _, hq => by
    have := hq [] .nil
    rw [List.append_nil] at this
    exact this
  | x :: xs, acc, Q, h, hq => by
    show tg x G fun G1 => mYes G1 fun c => if c = true then me G1 fun d => compD G tg mYes me xs (acc ++ [d]) Q else compD G tg mYes me xs acc Q
    simp only [mYes, if_true]
    refine h x List.mem_cons_self _ fun d hd => compD_rel R xs (acc ++ [d]) Q (fun y hy => h y (List.mem_cons_of_mem _ hy)) fun ds hds => ?_
    rw [List.append_assoc]
    exact hq _ (.cons hd hds)
/-! ## the parts -/
def fDivisor : FS := fun ds Q => ∃ a b : Int, ds = [.int a, .int b] ∧ Q (.int (Int.gcd a b : Int))
theorem abs_ite (a : Int) : (if a < 0 then -a else a) = (a.natAbs : Int) := by omega
theorem eqv_int (a b : Int) : D.eqv (.int a) (.int b) = decide (a = b) := by
  show (a == b) = _
  exact Bool.beq_eq_decide_eq a b
theorem pl_int (n : Nat) (a : Int) : D.pl (n + 1) (.int a) = true := rfl
theorem p_divisor : ∀ ds Q, fDivisor ds Q → b_divisor { nx := fun _ => Q .non, rt := Q } (startD N_divisor ds) := by
  rintro ds Q ⟨a, b, rfl, hq⟩
  unfold b_divisor
  lcg_off
  rw [abs_ite, abs_ite]
  refine ⟨fun n G => ∃ x y : Nat, G = [.fz (.int x), .fz (.int y)] ∧ Nat.gcd x y = Int.gcd a b ∧ n = y, ⟨b.natAbs, a.natAbs, b.natAbs, rfl, rfl, rfl⟩, ?_⟩
  rintro n G ⟨x, y, rfl, hg, hn⟩
  lcg_off
  refine ⟨rfl, rfl, ?_⟩
  rw [eqv_int]
  by_cases hy : (y : Int) = 0
  · simp only [hy, decide_true, Bool.not_true, Bool.false_eq_true, if_false]
    have : y = 0 := by omega
    subst this
    rw [Nat.gcd_zero_right] at hg
    rw [hg]; exact hq
  · simp only [hy, decide_false, Bool.not_false, if_true]
    refine ⟨by omega, x % y, by rw [hn]; exact Nat.mod_lt _ (by omega), y, x % y, ?_, ?_, rfl⟩
    · rw [Int.natCast_emod]
    · rw [← hg, Nat.gcd_comm x y, Nat.gcd_rec y x, Nat.gcd_comm]
theorem gcd_facts {a b : Int} (hb : b ≠ 0) : 0 < (Int.gcd a b : Int) ∧ (Int.gcd a b : Int).natAbs ≤ b.natAbs := by
  have h1 : 0 < Int.gcd a b := Int.gcd_pos_of_ne_zero_right a hb
  have h2 : Int.gcd a b ∣ b.natAbs := Int.gcd_dvd_natAbs_right a b
  have h3 := Nat.le_of_dvd (by omega) h2
  omega
def fPart : FS := fun ds Q => ∃ a b : Int, ds = [.int a, .int b] ∧ b ≠ 0 ∧ b.natAbs < 2 ^ 9000 ∧ Q (encQ (Rat.divInt a b))
theorem p_part : ∀ ds Q, fPart ds Q → b_part fDivisor { nx := fun _ => Q .non, rt := Q } (startD N_part ds) := by
  rintro ds Q ⟨a, b, rfl, hb, hz, hq⟩
  unfold b_part
  lcg_off
  by_cases h : b < 0
  · rw [if_pos h]
    obtain ⟨g1, g2⟩ := gcd_facts (a := 0 - a) (b := 0 - b) (by omega)
    have hw : ∀ i, CDivW i (Int.gcd (0 - a) (0 - b) : Int) := fun i => wide_div g1 (b := 9000) (Nat.lt_of_le_of_lt g2 (by rw [Int.zero_sub, Int.natAbs_neg]; exact hz)) (by decide) (by decide)
    refine ⟨_, _, rfl, ?_⟩
    lcg_off
    refine ⟨hw _, hw _, by decide, ?_⟩
    have e := encQ_divInt (a := 0 - a) (b := 0 - b) (by omega)
    rw [← e]
    have : Rat.divInt (0 - a) (0 - b) = Rat.divInt a b := by
      rw [Int.zero_sub, Int.zero_sub, Rat.neg_divInt_neg]
    rw [this]; exact hq
  · rw [if_neg h]
    obtain ⟨g1, g2⟩ := gcd_facts (a := a) (b := b) hb
    have hw : ∀ i, CDivW i (Int.gcd a b : Int) := fun i => wide_div g1 (b := 9000) (Nat.lt_of_le_of_lt g2 hz) (by decide) (by decide)
    refine ⟨_, _, rfl, ?_⟩
    lcg_off
    refine ⟨hw _, hw _, by decide, ?_⟩
    rw [← encQ_divInt (by omega)]
    exact hq
end DL
set_option Elab.async false
set_option linter.all false
set_option autoImplicit false
set_option maxRecDepth 100000
namespace DL
open PySem PySem.Spec
open PyProof.Rows hiding St
open L2
local macro_rules | `(tactic| lcg_off) => `(tactic| simp only [mVar, mC, mNil, mCons, mTup, mTupF, mLst, mFz, mOp, oI0, oI, oEq, oNe, oIsN, oNotN, oIsB, oIsNotB, oCatT, oCatL, oRepT, mRepL, mIx, mSq, mOwn, mTst, mAnd, mOr, mNot, mAndV, mOrV, mNotV, mIf, mNeg, mCall, mCB, cAbs, cInt, mLen, mTupO, mLstO, mLrg1, mSum, mAny, mAll, mIndex, mNoP, mPart, mSlT, mSlL, mIsi, mDGet, mDisp, mPairs, mWeak, mSeqI, mRange1, mRange2, mYes, gNm, gTupD, gConsD, gNilD, mLc, mNext, mSeq, mBreak, mCont, mAsg, mSet, mSetOw, mPar, mPar3, mParO, mParO1, mParOO, mDrop, mRet, mRetN, mIfS, mGive, mApp, mSetIx, mIns, mRem, isOw, onOw, mEqQ, mNeQ, mNewT, mPutT, onDt, mGetT, mFor, startD, List.map_cons, List.map_nil, List.length_cons, List.length_nil, List.cons_append, List.nil_append, List.getElem?_cons_zero, List.getElem?_cons_succ, List.set_cons_zero, List.set_cons_succ, List.replicate_succ, List.replicate_zero, Nat.reduceAdd, Nat.reduceSub, Nat.zero_add, Nat.sub_self, decide_eq_true_eq, Bool.not_eq_true, Bool.not_eq_eq_eq_not, if_true, if_false, ite_true, ite_false, Bool.false_eq_true, noOw, wipeD, List.all_cons, List.all_nil, Bool.and_true, true_and, and_true, D.isNon, Bool.not_true, Bool.not_false])
theorem atD0 (x y : D) (Q : D → Prop) : atD [x, y] 0 Q = Q x := rfl
theorem atD1 (x y : D) (Q : D → Prop) : atD [x, y] 1 Q = Q y := rfl
theorem nlt_mul {a b : Int} {n m : Nat} (h1 : a.natAbs < 2 ^ n) (h2 : b.natAbs < 2 ^ m) : (a * b).natAbs < 2 ^ (n + m) := by
  rw [Int.natAbs_mul, Nat.pow_add]
  exact Nat.mul_lt_mul'' h1 h2
theorem nlt_add {a b : Int} {n : Nat} (h1 : a.natAbs < 2 ^ n) (h2 : b.natAbs < 2 ^ n) : (a + b).natAbs < 2 ^ (n + 1) := by
  have := Int.natAbs_add_le a b
  rw [Nat.pow_succ]
  omega
theorem nlt_sub {a b : Int} {n : Nat} (h1 : a.natAbs < 2 ^ n) (h2 : b.natAbs < 2 ^ n) : (a - b).natAbs < 2 ^ (n + 1) := by
  have := Int.natAbs_sub_le a b
  rw [Nat.pow_succ]
  omega
theorem natAbs_cast (n : Nat) : ((n : Int)).natAbs = n := rfl
theorem Sz.dn {n : Nat} {q : Rat} (h : Sz n q) : ((q.den : Int)).natAbs < 2 ^ n := h.2
theorem nlt_mono {a : Int} {n m : Nat} (h : a.natAbs < 2 ^ n) (k : n ≤ m) : a.natAbs < 2 ^ m := Nat.lt_of_lt_of_le h (pow_lt_pow2 k)
theorem mulW {a b : Int} {n m : Nat} (h1 : a.natAbs < 2 ^ n) (h2 : b.natAbs < 2 ^ m) (h : n + m ≤ 900000) : CMulW a b :=
  wide_mul (a := n + 1) (b := m + 1) (nlt_mono h1 (by omega)) (nlt_mono h2 (by omega)) (by omega) (by omega) (by omega)
theorem den_ne (q : Rat) : (q.den : Int) ≠ 0 := by have := q.den_nz; omega
theorem den_pos' (q : Rat) : (0 : Int) < (q.den : Int) := by have := q.den_nz; omega
/-! sizes of what is reckoned -/
theorem Sz.add {n m : Nat} {p q : Rat} (h : Sz n p) (k : Sz m q) : Sz (n + m + 1) (p + q) := by
  rw [Rat.add_def', ← Rat.divInt_ofNat]
  refine divInt_sz (by have := p.den_nz; have := q.den_nz; simp [p.den_nz, q.den_nz]) (nlt_add (nlt_mul h.1 k.dn) ?_) ?_
  · exact nlt_mono (nlt_mul k.1 h.dn) (by omega)
  · rw [Int.natCast_mul]
    exact nlt_mono (nlt_mul h.dn k.dn) (by omega)
theorem Sz.neg {n : Nat} {p : Rat} (h : Sz n p) : Sz n (-p) := ⟨by rw [Rat.neg_num, Int.natAbs_neg]; exact h.1, h.2⟩
theorem Sz.sub {n m : Nat} {p q : Rat} (h : Sz n p) (k : Sz m q) : Sz (n + m + 1) (p - q) := by
  rw [Rat.sub_eq_add_neg]
  exact h.add k.neg
theorem Sz.mul {n m : Nat} {p q : Rat} (h : Sz n p) (k : Sz m q) : Sz (n + m) (p * q) := by
  rw [Rat.mul_def', ← Rat.divInt_ofNat]
  refine divInt_sz (by simp [p.den_nz, q.den_nz]) (nlt_mul h.1 k.1) ?_
  rw [Int.natCast_mul]
  exact nlt_mul h.dn k.dn
theorem Sz.inv {n : Nat} {p : Rat} (h : Sz n p) (hp : p ≠ 0) : Sz n p⁻¹ := by
  rw [Rat.inv_def]
  exact divInt_sz (fun e => hp (Rat.num_eq_zero.mp e)) h.dn h.1
theorem Sz.div {n m : Nat} {p q : Rat} (h : Sz n p) (k : Sz m q) (hq : q ≠ 0) : Sz (n + m) (p / q) := by
  rw [Rat.div_def]
  exact h.mul (k.inv hq)
theorem sz01 : Sz 1 (0 : Rat) := ⟨by decide, by decide⟩
theorem sz11 : Sz 1 (1 : Rat) := ⟨by decide, by decide⟩
theorem add_divInt (p q : Rat) : Rat.divInt (p.num * (q.den : Int) + q.num * (p.den : Int)) ((p.den : Int) * (q.den : Int)) = p + q := by
  rw [Rat.add_def', ← Int.natCast_mul, Rat.divInt_ofNat]
theorem sub_divInt (p q : Rat) : Rat.divInt (p.num * (q.den : Int) - q.num * (p.den : Int)) ((p.den : Int) * (q.den : Int)) = p - q := by
  rw [Rat.sub_def', ← Int.natCast_mul, Rat.divInt_ofNat]
theorem mul_divInt (p q : Rat) : Rat.divInt (p.num * q.num) ((p.den : Int) * (q.den : Int)) = p * q := by
  rw [Rat.mul_def', ← Int.natCast_mul, Rat.divInt_ofNat]
theorem div_divInt (p q : Rat) : Rat.divInt (p.num * (q.den : Int)) ((p.den : Int) * q.num) = p / q := by
  rw [Rat.div_def, Rat.inv_def, ← Rat.divInt_mul_divInt, Rat.num_divInt_den]
/-- two parts in, one out -/
def fBin (op : Rat → Rat → Rat) : FS := fun ds Q => ∃ (p q : Rat) (n m : Nat), ds = [encQ p, encQ q] ∧ Sz n p ∧ Sz m q ∧ n + m ≤ 8000 ∧ Q (encQ (op p q))
def fOver : FS := fun ds Q => ∃ (p q : Rat) (n m : Nat), ds = [encQ p, encQ q] ∧ q ≠ 0 ∧ Sz n p ∧ Sz m q ∧ n + m ≤ 8000 ∧ Q (encQ (p / q))
theorem mul_ne {a b : Int} (h1 : a ≠ 0) (h2 : b ≠ 0) : a * b ≠ 0 := Int.mul_ne_zero h1 h2
theorem p_plus : ∀ ds Q, fBin (· + ·) ds Q → b_plus fPart { nx := fun _ => Q .non, rt := Q } (startD N_plus ds) := by
  rintro ds Q ⟨p, q, n, m, rfl, hp, hq, hz, hQ⟩
  unfold b_plus
  simp only [encQ]
  lcg_off
  simp only [atD0, atD1]
  have z1 := nlt_mul hp.1 hq.dn
  have z2 := nlt_mul hq.1 hp.dn
  have z3 := nlt_mul hp.dn hq.dn
  refine ⟨mulW hp.1 hq.dn (by omega), mulW hq.1 hp.dn (by omega), mulW hp.dn hq.dn (by omega), _, _, rfl, mul_ne (den_ne p) (den_ne q), nlt_mono z3 (by omega), ?_⟩
  rw [add_divInt]; exact hQ
theorem p_minus : ∀ ds Q, fBin (· - ·) ds Q → b_minus fPart { nx := fun _ => Q .non, rt := Q } (startD N_minus ds) := by
  rintro ds Q ⟨p, q, n, m, rfl, hp, hq, hz, hQ⟩
  unfold b_minus
  simp only [encQ]
  lcg_off
  simp only [atD0, atD1]
  have z3 := nlt_mul hp.dn hq.dn
  refine ⟨mulW hp.1 hq.dn (by omega), mulW hq.1 hp.dn (by omega), mulW hp.dn hq.dn (by omega), _, _, rfl, mul_ne (den_ne p) (den_ne q), nlt_mono z3 (by omega), ?_⟩
  rw [sub_divInt]; exact hQ
theorem p_times : ∀ ds Q, fBin (· * ·) ds Q → b_times fPart { nx := fun _ => Q .non, rt := Q } (startD N_times ds) := by
  rintro ds Q ⟨p, q, n, m, rfl, hp, hq, hz, hQ⟩
  unfold b_times
  simp only [encQ]
  lcg_off
  simp only [atD0, atD1]
  have z3 := nlt_mul hp.dn hq.dn
  refine ⟨mulW hp.1 hq.1 (by omega), mulW hp.dn hq.dn (by omega), _, _, rfl, mul_ne (den_ne p) (den_ne q), nlt_mono z3 (by omega), ?_⟩
  rw [mul_divInt]; exact hQ
theorem num_ne {q : Rat} (h : q ≠ 0) : q.num ≠ 0 := fun e => h (Rat.num_eq_zero.mp e)
theorem p_over : ∀ ds Q, fOver ds Q → b_over fPart { nx := fun _ => Q .non, rt := Q } (startD N_over ds) := by
  rintro ds Q ⟨p, q, n, m, rfl, h0, hp, hq, hz, hQ⟩
  unfold b_over
  simp only [encQ]
  lcg_off
  simp only [atD0, atD1]
  have z3 := nlt_mul hp.dn hq.1
  refine ⟨mulW hp.1 hq.dn (by omega), mulW hp.dn hq.1 (by omega), _, _, rfl, mul_ne (den_ne p) (num_ne h0), nlt_mono z3 (by omega), ?_⟩
  rw [div_divInt]; exact hQ
def fNeg : FS := fun ds Q => ∃ p : Rat, ds = [encQ p] ∧ Q (encQ (-p))
theorem p_negative : ∀ ds Q, fNeg ds Q → b_negative { nx := fun _ => Q .non, rt := Q } (startD N_negative ds) := by
  rintro ds Q ⟨p, rfl, hQ⟩
  unfold b_negative
  simp only [encQ]
  lcg_off
  simp only [atD0, atD1, Int.zero_sub]
  exact ⟨by decide, hQ⟩
def fLess : FS := fun ds Q => ∃ (p q : Rat) (n m : Nat), ds = [encQ p, encQ q] ∧ Sz n p ∧ Sz m q ∧ n + m ≤ 8000 ∧ Q (.bl (decide (p < q)))
theorem lt_dec (p q : Rat) : decide (p.num * (q.den : Int) < q.num * (p.den : Int)) = decide (p < q) := decide_eq_decide.mpr (Rat.lt_iff p q).symm
theorem p_is_less : ∀ ds Q, fLess ds Q → b_is_less { nx := fun _ => Q .non, rt := Q } (startD N_is_less ds) := by
  rintro ds Q ⟨p, q, n, m, rfl, hp, hq, hz, hQ⟩
  unfold b_is_less
  simp only [encQ]
  lcg_off
  simp only [atD0, atD1, lt_dec]
  exact ⟨mulW hp.1 hq.dn (by omega), mulW hq.1 hp.dn (by omega), hQ⟩
end DL
set_option Elab.async false
set_option linter.all false
set_option autoImplicit false
set_option maxRecDepth 100000
namespace DL
open PySem PySem.Spec
open PyProof.Rows hiding St
open L2
local macro_rules | `(tactic| lcg_off) => `(tactic| simp only [mVar, mC, mNil, mCons, mTup, mTupF, mLst, mFz, mOp, oI0, oI, oEq, oNe, oIsN, oNotN, oIsB, oIsNotB, oCatT, oCatL, oRepT, mRepL, mIx, mSq, mOwn, mTst, mAnd, mOr, mNot, mAndV, mOrV, mNotV, mIf, mNeg, mCall, mCB, cAbs, cInt, mLen, mTupO, mLstO, mLrg1, mSum, mAny, mAll, mIndex, mNoP, mPart, mSlT, mSlL, mIsi, mDGet, mDisp, mPairs, mWeak, mSeqI, mRange1, mRange2, mYes, gNm, gTupD, gConsD, gNilD, mLc, mNext, mSeq, mBreak, mCont, mAsg, mSet, mSetOw, mPar, mPar3, mParO, mParO1, mParOO, mDrop, mRet, mRetN, mIfS, mGive, mApp, mSetIx, mIns, mRem, isOw, onOw, mEqQ, mNeQ, mNewT, mPutT, onDt, mGetT, mFor, startD, List.map_cons, List.map_nil, List.length_cons, List.length_nil, List.cons_append, List.nil_append, List.getElem?_cons_zero, List.getElem?_cons_succ, List.set_cons_zero, List.set_cons_succ, List.replicate_succ, List.replicate_zero, Nat.reduceAdd, Nat.reduceSub, Nat.zero_add, Nat.sub_self, decide_eq_true_eq, Bool.not_eq_true, Bool.not_eq_eq_eq_not, if_true, if_false, ite_true, ite_false, Bool.false_eq_true, noOw, wipeD, List.all_cons, List.all_nil, Bool.and_true, true_and, and_true, D.isNon, Bool.not_true, Bool.not_false])
def fIsPart : FS := fun ds Q => ∃ q : Rat, ds = [encQ q] ∧ Q (.bl true)
theorem isi_tup (xs : List D) : isiB (.tup xs) "tuple" = true := rfl
theorem isi_lst (xs : List D) : isiB (.lst xs) "tuple" = false := rfl
theorem isi_non : isiB .non "tuple" = false := rfl
theorem isi_int (i : Int) : isiB (.int i) "int" = true := rfl
theorem isi_intb (i : Int) : isiB (.int i) "bool" = false := rfl
theorem p_is_part : ∀ ds Q, fIsPart ds Q → b_is_part fDivisor { nx := fun _ => Q .non, rt := Q } (startD N_is_part ds) := by
  rintro ds Q ⟨q, rfl, hQ⟩
  unfold b_is_part
  simp only [encQ]
  lcg_off
  simp only [isi_tup, eqv_int, compD, gNm, mYes, mVar, mIsi, mAndV, mNotV]
  lcg_off
  simp only [isi_int, isi_intb, blsOf, Option.map_some, atD0, atD1]
  have h1 : (1 : Int) ≤ (q.den : Int) := by have := q.den_nz; omega
  simp only [h1, Bool.true_eq_false, if_false, if_true, decide_true, List.all_cons, List.all_nil, id_eq, Bool.not_false, Bool.and_self]
  refine ⟨rfl, rfl, ?_⟩
  simp (decide := true) only [if_false, if_true]
  refine ⟨by decide, ?_⟩
  refine ⟨_, _, rfl, by trivial, by trivial, ?_⟩
  rw [eqv_int]
  have : Int.gcd q.num (q.den : Int) = 1 := q.reduced
  rw [this]
  exact hQ
/-! ### sequences of parts -/
def encL (qs : List Rat) : List D := qs.map encQ
/-- a list or a tuple of these -/
def isSq (d : D) (xs : List D) : Prop := d = .lst xs ∨ d = .tup xs
def fAreParts : FS := fun ds Q => ∃ n : Int, (∃ xs, ds = [.lst xs, .int n] ∧ Q (.bl false)) ∨ (∃ qs : List Rat, ds = [.tup (encL qs), .int n] ∧ qs.length ≤ 1000 ∧ Q (.bl (decide ((qs.length : Int) = n))))
theorem blsOf_replicate (n : Nat) : blsOf (List.replicate n (D.bl true)) = some (List.replicate n true) := by
  have : List.replicate n (D.bl true) = (List.replicate n true).map D.bl := by simp
  rw [this, blsOf_map]
theorem p_are_parts : ∀ ds Q, fAreParts ds Q → b_are_parts fIsPart { nx := fun _ => Q .non, rt := Q } (startD N_are_parts ds) := by
  rintro ds Q ⟨n, ⟨xs, rfl, hQ⟩ | ⟨qs, rfl, hl, hQ⟩⟩
  · unfold b_are_parts
    lcg_off
    simp only [isi_lst, Bool.false_eq_true, if_false]
    exact hQ
  · unfold b_are_parts
    lcg_off
    simp only [isi_tup, if_true, eqv_int]
    refine ⟨rfl, rfl, ?_⟩
    have e : (encL qs).length = qs.length := List.length_map _
    rw [e]
    by_cases h : (qs.length : Int) = n
    · simp only [h, decide_true, if_true] at hQ ⊢
      refine ⟨by rw [← e]; omega, ?_⟩
      refine compD_map (fun _ => .bl true) _ _ _ (fun x hx k hk => ?_) ?_
      · obtain ⟨q, _, rfl⟩ := List.mem_map.mp hx
        lcg_off
        exact ⟨q, rfl, hk⟩
      · rw [List.nil_append, List.map_const', blsOf_replicate]
        simp
        exact hQ
    · simp only [h, decide_false, Bool.false_eq_true, if_false] at hQ ⊢
      exact hQ
/-! ### least, total, dot -/
def fLeast2 : FS := fun ds Q => ∃ (p q : Rat) (n m : Nat), ds = [.lst [encQ p, encQ q]] ∧ Sz n p ∧ Sz m q ∧ n + m ≤ 4000 ∧ Q (encQ (if q < p then q else p))
theorem p_least : ∀ ds Q, fLeast2 ds Q → b_least fLess { nx := fun _ => Q .non, rt := Q } (startD N_least ds) := by
  rintro ds Q ⟨p, q, n, m, rfl, hp, hq, hz, hQ⟩
  unfold b_least
  lcg_off
  simp only [forD, guardD, gNm]
  lcg_off
  refine ⟨q, p, m, n, rfl, hq, hp, by omega, ?_⟩
  by_cases h : q < p
  · simp only [h, decide_true, if_true] at hQ ⊢
    exact hQ
  · simp only [h, decide_false, if_false, Bool.false_eq_true] at hQ ⊢
    exact hQ
theorem sz_sum {n : Nat} : ∀ (qs : List Rat) (acc : Rat) (m : Nat), (∀ q ∈ qs, Sz n q) → Sz m acc → Sz (m + qs.length * (n + 1)) (qs.foldl (· + ·) acc)
  | [], acc, m, _, h => by simpa using h
  | q :: qs, acc, m, hq, h => by
    have := sz_sum qs (acc + q) (m + n + 1) (fun x hx => hq x (List.mem_cons_of_mem _ hx)) (h.add (hq q List.mem_cons_self))
    rw [List.foldl_cons, List.length_cons]
    refine this.mono ?_
    rw [Nat.add_mul]
    omega
def sumQ (qs : List Rat) : Rat := qs.foldl (· + ·) 0
def fTotal : FS := fun ds Q => ∃ (d : D) (qs : List Rat) (n : Nat), ds = [d] ∧ isSq d (encL qs) ∧ (∀ q ∈ qs, Sz n q) ∧ 1 + qs.length * (n + 1) + n ≤ 8000 ∧ Q (encQ (sumQ qs))
theorem enc01 : D.tup [D.int 0, D.int 1] = encQ 0 := rfl
theorem enc11 : D.tup [D.int 1, D.int 1] = encQ 1 := rfl
theorem total_loop {al : List D} {Q : D → Prop} {d : D} {n : Nat} : ∀ (qs : List Rat) (acc : Rat) (m : Nat) (e : EV), (∀ q ∈ qs, Sz n q) → Sz m acc → m + qs.length * (n + 1) + n ≤ 8000 → guardD none al [] → Q (encQ (qs.foldl (· + ·) acc)) →
    forD none al (gNm 2) (mSet 1 (mCall (fBin (· + ·)) (mCons (mVar 1) (mCons (mVar 2) mNil)))) { nx := mRet (mVar 1) { nx := fun _ => Q .non, rt := Q }, rt := Q } (encL qs) [.fz d, .fz (encQ acc), e]
  | [], acc, m, e, _, _, _, _, hQ => by
    simp only [encL, List.map_nil, forD, guardD]
    lcg_off
    exact hQ
  | q :: qs, acc, m, e, hs, ha, hz, hg, hQ => by
    simp only [encL, List.map_cons, forD, guardD, gNm]
    lcg_off
    rw [List.length_cons, Nat.add_mul] at hz
    refine ⟨acc, q, m, n, rfl, ha, hs q List.mem_cons_self, by omega, ?_⟩
    exact total_loop qs (acc + q) (m + n + 1) _ (fun x hx => hs x (List.mem_cons_of_mem _ hx)) (ha.add (hs q List.mem_cons_self)) (by omega) hg hQ
theorem p_total : ∀ ds Q, fTotal ds Q → b_total (fBin (· + ·)) { nx := fun _ => Q .non, rt := Q } (startD N_total ds) := by
  rintro ds Q ⟨d, qs, n, rfl, hd, hs, hz, hQ⟩
  unfold b_total
  rcases hd with rfl | rfl
  · lcg_off
    refine ⟨by decide, ?_⟩
    rw [enc01]
    exact total_loop qs 0 1 _ hs sz01 hz trivial hQ
  · lcg_off
    refine ⟨by decide, ?_⟩
    rw [enc01]
    exact total_loop qs 0 1 _ hs sz01 hz trivial hQ
end DL
set_option Elab.async false
set_option linter.all false
set_option autoImplicit false
set_option maxRecDepth 100000
namespace DL
open PySem PySem.Spec
open PyProof.Rows hiding St
open L2
local macro_rules | `(tactic| lcg_off) => `(tactic| simp only [mVar, mC, mNil, mCons, mTup, mTupF, mLst, mFz, mOp, oI0, oI, oEq, oNe, oIsN, oNotN, oIsB, oIsNotB, oCatT, oCatL, oRepT, mRepL, mIx, mSq, mOwn, mTst, mAnd, mOr, mNot, mAndV, mOrV, mNotV, mIf, mNeg, mCall, mCB, cAbs, cInt, mLen, mTupO, mLstO, mLrg1, mSum, mAny, mAll, mIndex, mNoP, mPart, mSlT, mSlL, mIsi, mDGet, mDisp, mPairs, mWeak, mSeqI, mRange1, mRange2, mYes, gNm, gTupD, gConsD, gNilD, mLc, mNext, mSeq, mBreak, mCont, mAsg, mSet, mSetOw, mPar, mPar3, mParO, mParO1, mParOO, mDrop, mRet, mRetN, mIfS, mGive, mApp, mSetIx, mIns, mRem, isOw, onOw, mEqQ, mNeQ, mNewT, mPutT, onDt, mGetT, mFor, startD, List.map_cons, List.map_nil, List.length_cons, List.length_nil, List.cons_append, List.nil_append, List.getElem?_cons_zero, List.getElem?_cons_succ, List.set_cons_zero, List.set_cons_succ, List.replicate_succ, List.replicate_zero, Nat.reduceAdd, Nat.reduceSub, Nat.zero_add, Nat.sub_self, decide_eq_true_eq, Bool.not_eq_true, Bool.not_eq_eq_eq_not, if_true, if_false, ite_true, ite_false, Bool.false_eq_true, noOw, wipeD, List.all_cons, List.all_nil, Bool.and_true, true_and, and_true, D.isNon, Bool.not_true, Bool.not_false])
/-! ### vectors by places -/
def vec (n : Nat) (v : Nat → Rat) : List D := (List.range n).map fun i => encQ (v i)
def ixs (n : Nat) : List D := (List.range n).map fun i => D.int (i : Nat)
theorem vec_encL (n : Nat) (v : Nat → Rat) : vec n v = encL ((List.range n).map v) := by
  unfold vec encL
  rw [List.map_map]; rfl
theorem vec_length (n : Nat) (v : Nat → Rat) : (vec n v).length = n := by simp [vec]
theorem atD_get {xs : List D} {i : Nat} {d : D} (h : xs[i]? = some d) (Q : D → Prop) : atD xs ((i : Nat) : Int) Q = Q d := by
  unfold atD
  rw [atI_nat h]
theorem vec_at {n i : Nat} (v : Nat → Rat) (h : i < n) : (vec n v)[i]? = some (encQ (v i)) := by
  unfold vec
  rw [List.getElem?_map, List.getElem?_range h]; rfl
theorem atD_vec {n i : Nat} {v : Nat → Rat} (h : i < n) (Q : D → Prop) : atD (vec n v) ((i : Nat) : Int) Q = Q (encQ (v i)) := atD_get (vec_at v h) Q
theorem mem_ixs {n : Nat} {x : D} (h : x ∈ ixs n) : ∃ i, i < n ∧ x = .int ((i : Nat) : Int) := by
  obtain ⟨i, hi, rfl⟩ := List.mem_map.mp h
  exact ⟨i, List.mem_range.mp hi, rfl⟩
def nOf : D → Nat
  | .int i => i.toNat
  | _ => 0
theorem nOf_int (i : Nat) : nOf (.int ((i : Nat) : Int)) = i := rfl
theorem ixs_map (n : Nat) (f : Nat → D) : (ixs n).map (fun x => f (nOf x)) = (List.range n).map f := by
  unfold ixs
  rw [List.map_map]
  rfl
theorem ixs_length (n : Nat) : (ixs n).length = n := by simp [ixs]
/-- the sum of the first n -/
def sm : Nat → (Nat → Rat) → Rat
  | 0, _ => 0
  | n + 1, f => sm n f + f n
theorem foldl_add (qs : List Rat) : ∀ a : Rat, qs.foldl (· + ·) a = a + qs.foldl (· + ·) 0 := by
  induction qs with
  | nil => intro a; simp [Rat.add_zero]
  | cons q r ih =>
    intro a
    rw [List.foldl_cons, List.foldl_cons, ih, ih (0 + q)]
    grind
theorem sumQ_range (n : Nat) (f : Nat → Rat) : sumQ ((List.range n).map f) = sm n f := by
  induction n with
  | zero => rfl
  | succ n ih =>
    rw [List.range_succ, List.map_append]
    unfold sumQ at ih ⊢
    rw [List.foldl_append, ih]
    rfl
theorem sm_congr {n : Nat} {f g : Nat → Rat} (h : ∀ i, i < n → f i = g i) : sm n f = sm n g := by
  induction n with
  | zero => rfl
  | succ n ih => rw [sm, sm, ih (fun i hi => h i (by omega)), h n (by omega)]
/-- a list or a tuple of the vector -/
def isV (d : D) (n : Nat) (v : Nat → Rat) : Prop := isSq d (vec n v)
def fDot : FS := fun ds Q => ∃ (d e : D) (n : Nat) (v u : Nat → Rat) (a b : Nat), ds = [d, e] ∧ isV d n v ∧ isV e n u ∧ (∀ i, i < n → Sz a (v i) ∧ Sz b (u i)) ∧ 1 + n * (a + b + 1) + a + b ≤ 8000 ∧ Q (encQ (sm n fun i => v i * u i))
theorem p_dot : ∀ ds Q, fDot ds Q → b_dot fTotal (fBin (· * ·)) { nx := fun _ => Q .non, rt := Q } (startD N_dot ds) := by
  rintro ds Q ⟨d, e, n, v, u, a, b, rfl, hd, he, hs, hz, hQ⟩
  have main : compD [.fz d, .fz e, .un] (gNm 2) mYes (mCall (fBin (· * ·)) (mCons (mIx (mSq (mVar 0)) (mVar 2)) (mCons (mIx (mSq (mVar 1)) (mVar 2)) mNil))) (ixs n) [] fun ds => fTotal [.lst ds] Q := by
    refine compD_map (fun x => encQ (v (nOf x) * u (nOf x))) _ _ _ (fun x hx k hk => ?_) ?_
    · obtain ⟨i, hi, rfl⟩ := mem_ixs hx
      rw [nOf_int] at hk
      rcases hd with rfl | rfl <;> rcases he with rfl | rfl <;> (lcg_off; rw [atD_vec hi, atD_vec hi]; exact ⟨_, _, a, b, rfl, (hs i hi).1, (hs i hi).2, by omega, hk⟩)
    · refine ⟨_, (List.range n).map (fun i => v i * u i), a + b, rfl, .inl ?_, fun q hq => ?_, by rw [List.length_map, List.length_range]; omega, ?_⟩
      · rw [List.nil_append, ixs_map n fun i => encQ (v i * u i)]
        exact congrArg D.lst (vec_encL n _)
      · obtain ⟨i, hi, rfl⟩ := List.mem_map.mp hq
        obtain ⟨h1, h2⟩ := hs i (List.mem_range.mp hi)
        exact h1.mul h2
      · rw [sumQ_range]; exact hQ
  have hn : n ≤ 8000 := by
    have : n * 1 ≤ n * (a + b + 1) := Nat.mul_le_mul_left _ (by omega)
    omega
  unfold b_dot
  rcases hd with rfl | rfl
  · lcg_off
    rw [vec_length, Int.toNat_natCast]
    exact ⟨by omega, by omega, by rw [List.length_map, List.length_range]; omega, main⟩
  · lcg_off
    rw [vec_length, Int.toNat_natCast]
    exact ⟨by omega, by omega, by rw [List.length_map, List.length_range]; omega, main⟩
end DL
set_option Elab.async false
set_option linter.all false
set_option autoImplicit false
set_option maxRecDepth 100000
namespace DL
open PySem PySem.Spec
open PyProof.Rows hiding St
open L2
local macro_rules | `(tactic| lcg_off) => `(tactic| simp only [mVar, mC, mNil, mCons, mTup, mTupF, mLst, mFz, mOp, oI0, oI, oEq, oNe, oIsN, oNotN, oIsB, oIsNotB, oCatT, oCatL, oRepT, mRepL, mIx, mSq, mOwn, mTst, mAnd, mOr, mNot, mAndV, mOrV, mNotV, mIf, mNeg, mCall, mCB, cAbs, cInt, mLen, mTupO, mLstO, mLrg1, mSum, mAny, mAll, mIndex, mNoP, mPart, mSlT, mSlL, mIsi, mDGet, mDisp, mPairs, mWeak, mSeqI, mRange1, mRange2, mYes, gNm, gTupD, gConsD, gNilD, mLc, mNext, mSeq, mBreak, mCont, mAsg, mSet, mSetOw, mPar, mPar3, mParO, mParO1, mParOO, mDrop, mRet, mRetN, mIfS, mGive, mApp, mSetIx, mIns, mRem, isOw, onOw, mEqQ, mNeQ, mNewT, mPutT, onDt, mGetT, mFor, startD, List.map_cons, List.map_nil, List.length_cons, List.length_nil, List.cons_append, List.nil_append, List.getElem?_cons_zero, List.getElem?_cons_succ, List.set_cons_zero, List.set_cons_succ, List.replicate_succ, List.replicate_zero, Nat.reduceAdd, Nat.reduceSub, Nat.zero_add, Nat.sub_self, decide_eq_true_eq, Bool.not_eq_true, Bool.not_eq_eq_eq_not, if_true, if_false, ite_true, ite_false, Bool.false_eq_true, noOw, wipeD, List.all_cons, List.all_nil, Bool.and_true, true_and, and_true, D.isNon, Bool.not_true, Bool.not_false])
/-! ## the law's own parts -/
def frBody : SD := (mSeq (mIfS (mTst (mOp oEq (mVar 3) (mC (.int 0)))) mBreak mNext) (mPar 2 3 (mCons (mVar 3) (mCons (mOp (oI (fun _ j => 0 < j) fun i j => .int (i % j)) (mCB cInt (mCons (mVar 2) mNil)) (mVar 3)) mNil))))
theorem fr_loop {al : List D} {De : EndsD} {a b : EV} {g : Nat} (hn : ∀ e, De.nx [a, b, .fz (.int (g : Int)), .fz (.int 0), e]) : ∀ (m : Nat) (xs : List D) (x y : Nat) (e : EV), y < 2 ^ m → 2 * m + 1 ≤ xs.length → Nat.gcd x y = g →
    forD none al (gNm 4) frBody De xs [a, b, .fz (.int (x : Int)), .fz (.int (y : Int)), e] := by
  have stop : ∀ (t : D) (rest : List D) (x : Nat) (e : EV), Nat.gcd x 0 = g → forD none al (gNm 4) frBody De (t :: rest) [a, b, .fz (.int (x : Int)), .fz (.int ((0 : Nat) : Int)), e] := by
    intro t rest x e hg
    rw [Nat.gcd_zero_right] at hg
    subst hg
    simp only [forD, guardD, gNm, frBody]
    lcg_off
    rw [eqv_int]
    simp only [Int.natCast_zero, Int.ofNat_zero, decide_true, if_true]
    exact ⟨rfl, rfl, hn _⟩
  have go : ∀ (t : D) (rest : List D) (x y : Nat) (e : EV), y ≠ 0 → (∀ e', forD none al (gNm 4) frBody De rest [a, b, .fz (.int (y : Int)), .fz (.int ((x % y : Nat) : Int)), e']) → forD none al (gNm 4) frBody De (t :: rest) [a, b, .fz (.int (x : Int)), .fz (.int (y : Int)), e] := by
    intro t rest x y e hy hr
    have hr := hr (.fz t)
    simp only [forD, guardD, gNm]
    have e1 : decide ((y : Int) = 0) = false := decide_eq_false (by omega)
    show True ∧ frBody _ _
    unfold frBody
    lcg_off
    rw [eqv_int, e1]
    simp only [Bool.false_eq_true, if_false]
    refine ⟨rfl, rfl, by omega, ?_⟩
    rw [← Int.natCast_emod]
    exact hr
  intro m
  induction m with
  | zero =>
    intro xs x y e hy hl hg
    have : y = 0 := by omega
    subst this
    match xs, hl with
    | t :: rest, _ => exact stop t rest x e hg
  | succ m ih =>
    intro xs x y e hy hl hg
    match xs, hl with
    | t :: t2 :: rest, hl =>
      by_cases h0 : y = 0
      · subst h0
        exact stop t _ x e hg
      · refine go t _ x y e h0 fun e' => ?_
        have hg2 : Nat.gcd y (x % y) = g := by rw [← hg, Nat.gcd_comm x y, Nat.gcd_rec y x, Nat.gcd_comm]
        by_cases h1 : x % y = 0
        · rw [h1] at hg2 ⊢
          exact stop t2 rest y e' hg2
        · refine go t2 rest y (x % y) e' h1 fun e2 => ?_
          have hg3 : Nat.gcd (x % y) (y % (x % y)) = g := by rw [← hg2, Nat.gcd_comm y (x % y), Nat.gcd_rec (x % y) y, Nat.gcd_comm]
          refine ih rest (x % y) (y % (x % y)) e2 ?_ ?_ hg3
          · have b1 : x % y < y := Nat.mod_lt _ (by omega)
            have b2 : y % (x % y) < x % y := Nat.mod_lt _ (by omega)
            have b3 : y % (x % y) ≤ y - x % y := by
              have := Nat.mod_eq_sub_mod (Nat.le_of_lt b1)
              rw [this]
              exact Nat.mod_le _ _
            rw [Nat.pow_succ] at hy
            omega
          · simp only [List.length_cons] at hl
            omega
def fFr : FS := fun ds Q => ∃ a b : Int, ds = [.int a, .int b] ∧ b ≠ 0 ∧ b.natAbs < 2 ^ 2990 ∧ Q (encQ (Rat.divInt a b))
theorem pow2990 : (2 : Nat) ^ 2990 ≤ 2 ^ 9000 := pow_lt_pow2 (by decide)
theorem p__law_fr : ∀ ds Q, fFr ds Q → b__law_fr { nx := fun _ => Q .non, rt := Q } (startD N__law_fr ds) := by
  have main : ∀ (Q : D → Prop) (a b : Int) (e : EV), 0 < b → b.natAbs < 2 ^ 2990 → Q (encQ (Rat.divInt a b)) → forD none (ixs 6000) (gNm 4) frBody { nx := mRet (mTup (mCons (mOp (oI CDivW fun i j => .int (i / j)) (mVar 0) (mVar 2)) (mCons (mOp (oI CDivW fun i j => .int (i / j)) (mVar 1) (mVar 2)) mNil))) { nx := fun _ => Q .non, rt := Q }, rt := Q } (ixs 6000)
      [.fz (.int a), .fz (.int b), .fz (.int (a.natAbs : Int)), .fz (.int b), e] := by
    intro Q a b e hb hz hQ
    have eb : b = ((b.natAbs : Nat) : Int) := by omega
    have := fr_loop (al := ixs 6000) (De := { nx := mRet (mTup (mCons (mOp (oI CDivW fun i j => .int (i / j)) (mVar 0) (mVar 2)) (mCons (mOp (oI CDivW fun i j => .int (i / j)) (mVar 1) (mVar 2)) mNil))) { nx := fun _ => Q .non, rt := Q }, rt := Q })
      (a := .fz (.int a)) (b := .fz (.int b)) (g := Int.gcd a b) (fun e' => ?_) 2990 (ixs 6000) a.natAbs b.natAbs e hz (by rw [ixs_length]; decide) rfl
    · rw [← eb] at this
      exact this
    · lcg_off
      obtain ⟨g1, g2⟩ := gcd_facts (a := a) (b := b) (by omega)
      have hw : ∀ i, CDivW i (Int.gcd a b : Int) := fun i => wide_div g1 (b := 9000) (Nat.lt_of_le_of_lt g2 (Nat.lt_of_lt_of_le hz pow2990)) (by decide) (by decide)
      refine ⟨hw _, hw _, by decide, ?_⟩
      rw [← encQ_divInt hb]
      exact hQ
  rintro ds Q ⟨a, b, rfl, hb, hz, hQ⟩
  unfold b__law_fr
  lcg_off
  by_cases h : b < 0
  · rw [if_pos h, abs_ite]
    refine ⟨by decide, by decide, ?_⟩
    refine main Q (0 - a) (0 - b) _ (by omega) (by rw [Int.zero_sub, Int.natAbs_neg]; exact hz) ?_
    rw [Int.zero_sub, Int.zero_sub, Rat.neg_divInt_neg]
    exact hQ
  · rw [if_neg h, abs_ite]
    refine ⟨by decide, by decide, ?_⟩
    exact main Q a b _ (by omega) hz hQ
end DL
set_option Elab.async false
set_option linter.all false
set_option autoImplicit false
set_option maxRecDepth 100000
namespace DL
open PySem PySem.Spec
open PyProof.Rows hiding St
open L2
local macro_rules | `(tactic| lcg_off) => `(tactic| simp only [mVar, mC, mNil, mCons, mTup, mTupF, mLst, mFz, mOp, oI0, oI, oEq, oNe, oIsN, oNotN, oIsB, oIsNotB, oCatT, oCatL, oRepT, mRepL, mIx, mSq, mOwn, mTst, mAnd, mOr, mNot, mAndV, mOrV, mNotV, mIf, mNeg, mCall, mCB, cAbs, cInt, mLen, mTupO, mLstO, mLrg1, mSum, mAny, mAll, mIndex, mNoP, mPart, mSlT, mSlL, mIsi, mDGet, mDisp, mPairs, mWeak, mSeqI, mRange1, mRange2, mYes, gNm, gTupD, gConsD, gNilD, mLc, mNext, mSeq, mBreak, mCont, mAsg, mSet, mSetOw, mPar, mPar3, mParO, mParO1, mParOO, mDrop, mRet, mRetN, mIfS, mGive, mApp, mSetIx, mIns, mRem, isOw, onOw, mEqQ, mNeQ, mNewT, mPutT, onDt, mGetT, mFor, startD, List.map_cons, List.map_nil, List.length_cons, List.length_nil, List.cons_append, List.nil_append, List.getElem?_cons_zero, List.getElem?_cons_succ, List.set_cons_zero, List.set_cons_succ, List.replicate_succ, List.replicate_zero, Nat.reduceAdd, Nat.reduceSub, Nat.zero_add, Nat.sub_self, decide_eq_true_eq, Bool.not_eq_true, Bool.not_eq_eq_eq_not, if_true, if_false, ite_true, ite_false, Bool.false_eq_true, noOw, wipeD, List.all_cons, List.all_nil, Bool.and_true, true_and, and_true, D.isNon, Bool.not_true, Bool.not_false])
def fBinL (op : Rat → Rat → Rat) : FS := fun ds Q => ∃ (p q : Rat) (n m : Nat), ds = [encQ p, encQ q] ∧ Sz n p ∧ Sz m q ∧ n + m ≤ 2990 ∧ Q (encQ (op p q))
def fOverL : FS := fun ds Q => ∃ (p q : Rat) (n m : Nat), ds = [encQ p, encQ q] ∧ q ≠ 0 ∧ Sz n p ∧ Sz m q ∧ n + m ≤ 2990 ∧ Q (encQ (p / q))
theorem p__law_add : ∀ ds Q, fBinL (· + ·) ds Q → b__law_add fFr { nx := fun _ => Q .non, rt := Q } (startD N__law_add ds) := by
  rintro ds Q ⟨p, q, n, m, rfl, hp, hq, hz, hQ⟩
  unfold b__law_add
  simp only [encQ]
  lcg_off
  simp only [atD0, atD1]
  have z3 := nlt_mul hp.dn hq.dn
  refine ⟨mulW hp.1 hq.dn (by omega), mulW hq.1 hp.dn (by omega), mulW hp.dn hq.dn (by omega), _, _, rfl, mul_ne (den_ne p) (den_ne q), nlt_mono z3 (by omega), ?_⟩
  rw [add_divInt]; exact hQ
theorem p__law_mul : ∀ ds Q, fBinL (· * ·) ds Q → b__law_mul fFr { nx := fun _ => Q .non, rt := Q } (startD N__law_mul ds) := by
  rintro ds Q ⟨p, q, n, m, rfl, hp, hq, hz, hQ⟩
  unfold b__law_mul
  simp only [encQ]
  lcg_off
  simp only [atD0, atD1]
  have z3 := nlt_mul hp.dn hq.dn
  refine ⟨mulW hp.1 hq.1 (by omega), mulW hp.dn hq.dn (by omega), _, _, rfl, mul_ne (den_ne p) (den_ne q), nlt_mono z3 (by omega), ?_⟩
  rw [mul_divInt]; exact hQ
theorem p__law_over : ∀ ds Q, fOverL ds Q → b__law_over fFr { nx := fun _ => Q .non, rt := Q } (startD N__law_over ds) := by
  rintro ds Q ⟨p, q, n, m, rfl, h0, hp, hq, hz, hQ⟩
  unfold b__law_over
  simp only [encQ]
  lcg_off
  simp only [atD0, atD1]
  have z3 := nlt_mul hp.dn hq.1
  refine ⟨mulW hp.1 hq.dn (by omega), mulW hp.dn hq.1 (by omega), _, _, rfl, mul_ne (den_ne p) (num_ne h0), nlt_mono z3 (by omega), ?_⟩
  rw [div_divInt]; exact hQ
theorem p__law_sub : ∀ ds Q, fBinL (· - ·) ds Q → b__law_sub (fBinL (· + ·)) { nx := fun _ => Q .non, rt := Q } (startD N__law_sub ds) := by
  rintro ds Q ⟨p, q, n, m, rfl, hp, hq, hz, hQ⟩
  unfold b__law_sub
  have e : encQ (-q) = .tup [.int (0 - q.num), .int (q.den : Int)] := by
    unfold encQ
    rw [Rat.neg_num, Rat.neg_den, Int.zero_sub]
  lcg_off
  unfold encQ
  simp only [atD0, atD1]
  refine ⟨by decide, p, -q, n, m, ?_, hp, hq.neg, hz, ?_⟩
  · rw [e]; rfl
  · have hQ : Q (encQ (p - q)) := hQ
    rw [Rat.sub_eq_add_neg] at hQ; exact hQ
theorem p__law_less : ∀ ds Q, fLess ds Q → b__law_less { nx := fun _ => Q .non, rt := Q } (startD N__law_less ds) := by
  rintro ds Q ⟨p, q, n, m, rfl, hp, hq, hz, hQ⟩
  unfold b__law_less
  simp only [encQ]
  lcg_off
  simp only [atD0, atD1, lt_dec]
  exact ⟨mulW hp.1 hq.dn (by omega), mulW hq.1 hp.dn (by omega), hQ⟩
def fTotalL : FS := fun ds Q => ∃ (d : D) (qs : List Rat) (n : Nat), ds = [d] ∧ isSq d (encL qs) ∧ (∀ q ∈ qs, Sz n q) ∧ 1 + qs.length * (n + 1) + n ≤ 2990 ∧ Q (encQ (sumQ qs))
theorem totalL_loop {al : List D} {Q : D → Prop} {d : D} {n : Nat} : ∀ (qs : List Rat) (acc : Rat) (m : Nat) (e : EV), (∀ q ∈ qs, Sz n q) → Sz m acc → m + qs.length * (n + 1) + n ≤ 2990 → guardD none al [] → Q (encQ (qs.foldl (· + ·) acc)) →
    forD none al (gNm 2) (mSet 1 (mCall (fBinL (· + ·)) (mCons (mVar 1) (mCons (mVar 2) mNil)))) { nx := mRet (mVar 1) { nx := fun _ => Q .non, rt := Q }, rt := Q } (encL qs) [.fz d, .fz (encQ acc), e]
  | [], acc, m, e, _, _, _, _, hQ => by
    simp only [encL, List.map_nil, forD, guardD]
    lcg_off
    exact hQ
  | q :: qs, acc, m, e, hs, ha, hz, hg, hQ => by
    simp only [encL, List.map_cons, forD, guardD, gNm]
    lcg_off
    rw [List.length_cons, Nat.add_mul] at hz
    refine ⟨acc, q, m, n, rfl, ha, hs q List.mem_cons_self, by omega, ?_⟩
    exact totalL_loop qs (acc + q) (m + n + 1) _ (fun x hx => hs x (List.mem_cons_of_mem _ hx)) (ha.add (hs q List.mem_cons_self)) (by omega) hg hQ
theorem p__law_sum : ∀ ds Q, fTotalL ds Q → b__law_sum (fBinL (· + ·)) { nx := fun _ => Q .non, rt := Q } (startD N__law_sum ds) := by
  rintro ds Q ⟨d, qs, n, rfl, hd, hs, hz, hQ⟩
  unfold b__law_sum
  rcases hd with rfl | rfl
  · lcg_off
    refine ⟨by decide, ?_⟩
    rw [enc01]
    exact totalL_loop qs 0 1 _ hs sz01 hz trivial hQ
  · lcg_off
    refine ⟨by decide, ?_⟩
    rw [enc01]
    exact totalL_loop qs 0 1 _ hs sz01 hz trivial hQ
def fDotL : FS := fun ds Q => ∃ (d e : D) (n : Nat) (v u : Nat → Rat) (a b : Nat), ds = [d, e] ∧ isV d n v ∧ isV e n u ∧ (∀ i, i < n → Sz a (v i) ∧ Sz b (u i)) ∧ 1 + n * (a + b + 1) + a + b ≤ 2990 ∧ Q (encQ (sm n fun i => v i * u i))
theorem p__law_dot : ∀ ds Q, fDotL ds Q → b__law_dot fTotalL (fBinL (· * ·)) { nx := fun _ => Q .non, rt := Q } (startD N__law_dot ds) := by
  rintro ds Q ⟨d, e, n, v, u, a, b, rfl, hd, he, hs, hz, hQ⟩
  have main : compD [.fz d, .fz e, .un] (gNm 2) mYes (mCall (fBinL (· * ·)) (mCons (mIx (mSq (mVar 0)) (mVar 2)) (mCons (mIx (mSq (mVar 1)) (mVar 2)) mNil))) (ixs n) [] fun ds => fTotalL [.lst ds] Q := by
    refine compD_map (fun x => encQ (v (nOf x) * u (nOf x))) _ _ _ (fun x hx k hk => ?_) ?_
    · obtain ⟨i, hi, rfl⟩ := mem_ixs hx
      rw [nOf_int] at hk
      rcases hd with rfl | rfl <;> rcases he with rfl | rfl <;> (lcg_off; rw [atD_vec hi, atD_vec hi]; exact ⟨_, _, a, b, rfl, (hs i hi).1, (hs i hi).2, by omega, hk⟩)
    · refine ⟨_, (List.range n).map (fun i => v i * u i), a + b, rfl, .inl ?_, fun q hq => ?_, by rw [List.length_map, List.length_range]; omega, ?_⟩
      · rw [List.nil_append, ixs_map n fun i => encQ (v i * u i)]
        exact congrArg D.lst (vec_encL n _)
      · obtain ⟨i, hi, rfl⟩ := List.mem_map.mp hq
        obtain ⟨h1, h2⟩ := hs i (List.mem_range.mp hi)
        exact h1.mul h2
      · rw [sumQ_range]; exact hQ
  have hn : n ≤ 2990 := by
    have : n * 1 ≤ n * (a + b + 1) := Nat.mul_le_mul_left _ (by omega)
    omega
  unfold b__law_dot
  rcases hd with rfl | rfl
  · lcg_off
    rw [vec_length, Int.toNat_natCast]
    exact ⟨by omega, by omega, by rw [List.length_map, List.length_range]; omega, main⟩
  · lcg_off
    rw [vec_length, Int.toNat_natCast]
    exact ⟨by omega, by omega, by rw [List.length_map, List.length_range]; omega, main⟩
/-! ### the greatest -/
def mostF (f : Rat) (qs : List Rat) : Rat := qs.foldl (fun f o => if f < o then o else f) f
def fMost : FS := fun ds Q => ∃ (d : D) (q : Rat) (qs : List Rat) (n : Nat), ds = [d] ∧ isSq d (encL (q :: qs)) ∧ (∀ x ∈ q :: qs, Sz n x) ∧ n + n ≤ 8000 ∧ Q (encQ (mostF q (q :: qs)))
theorem most_loop {al : List D} {Q : D → Prop} {d : D} {n : Nat} (hz : n + n ≤ 8000) : ∀ (qs : List Rat) (f : Rat) (e : EV), (∀ q ∈ qs, Sz n q) → Sz n f → Q (encQ (mostF f qs)) →
    forD none al (gNm 2) (mSet 1 (mIf (mTst (mCall fLess (mCons (mVar 1) (mCons (mVar 2) mNil)))) (mVar 2) (mVar 1))) { nx := mRet (mVar 1) { nx := fun _ => Q .non, rt := Q }, rt := Q } (encL qs) [.fz d, .fz (encQ f), e]
  | [], f, e, _, _, hQ => by
    simp only [encL, List.map_nil, forD, guardD]
    lcg_off
    exact hQ
  | q :: qs, f, e, hs, hf, hQ => by
    simp only [encL, List.map_cons, forD, guardD, gNm]
    lcg_off
    refine ⟨f, q, n, n, rfl, hf, hs q List.mem_cons_self, hz, ?_⟩
    have hQ : Q (encQ (mostF (if f < q then q else f) qs)) := hQ
    by_cases h : f < q
    · simp only [h, decide_true, if_true] at hQ ⊢
      exact most_loop hz qs q _ (fun x hx => hs x (List.mem_cons_of_mem _ hx)) (hs q List.mem_cons_self) hQ
    · simp only [h, decide_false, if_false, Bool.false_eq_true] at hQ ⊢
      exact most_loop hz qs f _ (fun x hx => hs x (List.mem_cons_of_mem _ hx)) hf hQ
theorem p__law_most : ∀ ds Q, fMost ds Q → b__law_most fLess { nx := fun _ => Q .non, rt := Q } (startD N__law_most ds) := by
  rintro ds Q ⟨d, q, qs, n, rfl, hd, hs, hz, hQ⟩
  have e0 : ∀ Q' : D → Prop, atD (encL (q :: qs)) 0 Q' = Q' (encQ q) := fun Q' => atD_get (i := 0) rfl Q'
  unfold b__law_most
  rcases hd with rfl | rfl
  · lcg_off
    rw [e0]
    exact most_loop hz (q :: qs) q _ hs (hs q List.mem_cons_self) hQ
  · lcg_off
    rw [e0]
    exact most_loop hz (q :: qs) q _ hs (hs q List.mem_cons_self) hQ
theorem mostF_ge : ∀ (qs : List Rat) (f : Rat), f ≤ mostF f qs ∧ ∀ q ∈ qs, q ≤ mostF f qs
  | [], f => ⟨Rat.le_refl, fun _ h => by cases h⟩
  | q :: qs, f => by
    have e : mostF f (q :: qs) = mostF (if f < q then q else f) qs := rfl
    rw [e]
    obtain ⟨h1, h2⟩ := mostF_ge qs (if f < q then q else f)
    by_cases h : f < q
    · rw [if_pos h] at h1 h2 ⊢
      refine ⟨Rat.le_trans (Rat.le_of_lt h) h1, fun x hx => ?_⟩
      rcases List.mem_cons.mp hx with rfl | hx
      · exact h1
      · exact h2 x hx
    · rw [if_neg h] at h1 h2 ⊢
      refine ⟨h1, fun x hx => ?_⟩
      rcases List.mem_cons.mp hx with rfl | hx
      · exact Rat.le_trans (Rat.not_lt.mp h) h1
      · exact h2 x hx
theorem mostF_mem : ∀ (qs : List Rat) (f : Rat), mostF f qs = f ∨ mostF f qs ∈ qs
  | [], f => .inl rfl
  | q :: qs, f => by
    have e : mostF f (q :: qs) = mostF (if f < q then q else f) qs := rfl
    rw [e]
    by_cases h : f < q
    · rw [if_pos h]
      rcases mostF_mem qs q with z | z
      · rw [z]; exact .inr List.mem_cons_self
      · exact .inr (List.mem_cons_of_mem _ z)
    · rw [if_neg h]
      rcases mostF_mem qs f with z | z
      · exact .inl z
      · exact .inr (List.mem_cons_of_mem _ z)
/-- the greatest is what is there and no less than all -/
theorem mostF_eq {q : Rat} {qs : List Rat} {r : Rat} (h1 : r ∈ q :: qs) (h2 : ∀ x ∈ q :: qs, x ≤ r) : mostF q (q :: qs) = r := by
  have hm : mostF q (q :: qs) ∈ q :: qs := by
    rcases mostF_mem (q :: qs) q with z | z
    · rw [z]; exact List.mem_cons_self
    · exact z
  exact Rat.le_antisymm (h2 _ hm) ((mostF_ge (q :: qs) q).2 r h1)
theorem p__law_least : ∀ ds Q, fLeast2 ds Q → b__law_least fLess { nx := fun _ => Q .non, rt := Q } (startD N__law_least ds) := by
  rintro ds Q ⟨p, q, n, m, rfl, hp, hq, hz, hQ⟩
  unfold b__law_least
  lcg_off
  simp only [atD0, forD, guardD, gNm]
  lcg_off
  refine ⟨p, p, n, n, rfl, hp, hp, by omega, ?_⟩
  have e : decide (p < p) = false := decide_eq_false Rat.lt_irrefl
  simp only [e, Bool.false_eq_true, if_false]
  refine ⟨q, p, m, n, rfl, hq, hp, by omega, ?_⟩
  by_cases h : q < p
  · simp only [h, decide_true, if_true] at hQ ⊢
    exact hQ
  · simp only [h, decide_false, if_false, Bool.false_eq_true] at hQ ⊢
    exact hQ
end DL
set_option Elab.async false
set_option linter.all false
set_option autoImplicit false
set_option maxRecDepth 100000
namespace DL
open PySem PySem.Spec
open PyProof.Rows hiding St
open L2
local macro_rules | `(tactic| lcg_off) => `(tactic| simp only [mVar, mC, mNil, mCons, mTup, mTupF, mLst, mFz, mOp, oI0, oI, oEq, oNe, oIsN, oNotN, oIsB, oIsNotB, oCatT, oCatL, oRepT, mRepL, mIx, mSq, mOwn, mTst, mAnd, mOr, mNot, mAndV, mOrV, mNotV, mIf, mNeg, mCall, mCB, cAbs, cInt, mLen, mTupO, mLstO, mLrg1, mSum, mAny, mAll, mIndex, mNoP, mPart, mSlT, mSlL, mIsi, mDGet, mDisp, mPairs, mWeak, mSeqI, mRange1, mRange2, mYes, gNm, gTupD, gConsD, gNilD, mLc, mNext, mSeq, mBreak, mCont, mAsg, mSet, mSetOw, mPar, mPar3, mParO, mParO1, mParOO, mDrop, mRet, mRetN, mIfS, mGive, mApp, mSetIx, mIns, mRem, isOw, onOw, mEqQ, mNeQ, mNewT, mPutT, onDt, mGetT, mFor, startD, List.map_cons, List.map_nil, List.length_cons, List.length_nil, List.cons_append, List.nil_append, List.getElem?_cons_zero, List.getElem?_cons_succ, List.set_cons_zero, List.set_cons_succ, List.replicate_succ, List.replicate_zero, Nat.reduceAdd, Nat.reduceSub, Nat.zero_add, Nat.sub_self, decide_eq_true_eq, Bool.not_eq_true, Bool.not_eq_eq_eq_not, if_true, if_false, ite_true, ite_false, Bool.false_eq_true, noOw, wipeD, List.all_cons, List.all_nil, Bool.and_true, true_and, and_true, D.isNon, Bool.not_true, Bool.not_false])
/-! ## the order of places: by value, then by place -/
def ltp (v : Nat → Rat) (i j : Nat) : Prop := v i < v j ∨ (v i = v j ∧ i < j)
def Srt (v : Nat → Rat) (n : Nat) (L : List Nat) : Prop := L.Pairwise (ltp v) ∧ ∀ i, i ∈ L ↔ i < n
theorem ltp_irrefl {v : Nat → Rat} {i : Nat} : ¬ ltp v i i := fun h => by
  rcases h with h | ⟨_, h⟩
  · exact Rat.lt_irrefl h
  · omega
theorem rlt_trans {a b c : Rat} (h : a < b) (k : b < c) : a < c := by grind
theorem ltp_trans {v : Nat → Rat} {i j k : Nat} (h : ltp v i j) (g : ltp v j k) : ltp v i k := by
  unfold ltp at *
  grind
theorem ltp_asymm {v : Nat → Rat} {i j : Nat} (h : ltp v i j) (g : ltp v j i) : False := ltp_irrefl (ltp_trans h g)
theorem ltp_total {v : Nat → Rat} {i j : Nat} (h : i ≠ j) : ltp v i j ∨ ltp v j i := by
  unfold ltp
  grind
theorem srt_unique {v : Nat → Rat} : ∀ (L M : List Nat), L.Pairwise (ltp v) → M.Pairwise (ltp v) → (∀ i, i ∈ L ↔ i ∈ M) → L = M
  | [], [], _, _, _ => rfl
  | [], b :: M, _, _, h => absurd ((h b).mpr List.mem_cons_self) (by simp)
  | a :: L, [], _, _, h => absurd ((h a).mp List.mem_cons_self) (by simp)
  | a :: L, b :: M, hL, hM, h => by
    rw [List.pairwise_cons] at hL hM
    have e : a = b := by
      rcases List.mem_cons.mp ((h a).mp List.mem_cons_self) with e | e
      · exact e
      · rcases List.mem_cons.mp ((h b).mpr List.mem_cons_self) with e2 | e2
        · exact e2.symm
        · exact (ltp_asymm (hM.1 a e) (hL.1 b e2)).elim
    subst e
    refine congrArg (a :: ·) (srt_unique L M hL.2 hM.2 fun i => ?_)
    constructor
    · intro hi
      rcases List.mem_cons.mp ((h i).mp (List.mem_cons_of_mem _ hi)) with e | e
      · exact (ltp_irrefl (e ▸ hL.1 i hi)).elim
      · exact e
    · intro hi
      rcases List.mem_cons.mp ((h i).mpr (List.mem_cons_of_mem _ hi)) with e | e
      · exact (ltp_irrefl (e ▸ hM.1 i hi)).elim
      · exact e
/-- put in its place -/
def insP (v : Nat → Rat) (k : Nat) : List Nat → List Nat
  | [] => [k]
  | a :: L => if v k < v a then k :: a :: L else a :: insP v k L
def places (v : Nat → Rat) : Nat → List Nat
  | 0 => []
  | n + 1 => insP v n (places v n)
theorem insP_mem {v : Nat → Rat} {k i : Nat} : ∀ L : List Nat, i ∈ insP v k L ↔ i = k ∨ i ∈ L
  | [] => by simp [insP]
  | a :: L => by
    unfold insP
    split
    · simp
    · rw [List.mem_cons, insP_mem L, List.mem_cons]
      constructor
      · rintro (h | h | h)
        · exact .inr (.inl h)
        · exact .inl h
        · exact .inr (.inr h)
      · rintro (h | h | h)
        · exact .inr (.inl h)
        · exact .inl h
        · exact .inr (.inr h)
theorem insP_srt {v : Nat → Rat} {k : Nat} : ∀ L : List Nat, L.Pairwise (ltp v) → (∀ i ∈ L, i < k) → (insP v k L).Pairwise (ltp v)
  | [], _, _ => by simp [insP]
  | a :: L, h, hk => by
    rw [List.pairwise_cons] at h
    unfold insP
    split
    · rename_i hlt
      rw [List.pairwise_cons]
      refine ⟨fun i hi => ?_, List.pairwise_cons.mpr h⟩
      rcases List.mem_cons.mp hi with e | hi
      · rw [e]; exact .inl hlt
      · exact ltp_trans (.inl hlt) (h.1 i hi)
    · rename_i hlt
      rw [List.pairwise_cons]
      refine ⟨fun i hi => ?_, insP_srt L h.2 fun i hi => hk i (List.mem_cons_of_mem _ hi)⟩
      rcases (insP_mem L).mp hi with e | hi
      · subst e
        have := hk a List.mem_cons_self
        unfold ltp
        grind
      · exact h.1 i hi
theorem places_srt (v : Nat → Rat) : ∀ n, Srt v n (places v n)
  | 0 => ⟨.nil, fun i => by simp [places]⟩
  | n + 1 => by
    obtain ⟨h1, h2⟩ := places_srt v n
    refine ⟨insP_srt _ h1 fun i hi => (h2 i).mp hi, fun i => ?_⟩
    unfold places
    rw [insP_mem, h2]
    omega
theorem srt_eq {v : Nat → Rat} {n : Nat} {L : List Nat} (h : Srt v n L) : L = places v n :=
  srt_unique L _ h.1 (places_srt v n).1 fun i => (h.2 i).trans ((places_srt v n).2 i).symm
def natsD (L : List Nat) : List D := L.map fun i => D.int ((i : Nat) : Int)
def fPlaces : FS := fun ds Q => ∃ (d : D) (n : Nat) (v : Nat → Rat) (a : Nat), ds = [d] ∧ isV d n v ∧ (∀ i, i < n → Sz a (v i)) ∧ n ≤ 1000 ∧ a + a ≤ 8000 ∧ Q (.lst (natsD (places v n)))
theorem atD_nats {L : List Nat} {i : Nat} (h : i < L.length) (Q : D → Prop) : atD (natsD L) ((i : Nat) : Int) Q = Q (.int ((L[i] : Nat) : Int)) := by
  refine atD_get ?_ Q
  unfold natsD
  rw [List.getElem?_map, List.getElem?_eq_getElem h]; rfl
/-- the program's way: the best of the rest, again and again -/
def bestOf (v : Nat → Rat) (b : Nat) (L : List Nat) : Nat := L.foldl (fun b k => if v k < v b then k else b) b
theorem best_loop {Q : En → Prop} {o : Option (Nat × Addr)} {al : List D} {v : Nat → Rat} {n a : Nat} {d : D} {rt : D → Prop} {bk ct : En → Prop} (hd : isV d n v) (hs : ∀ i, i < n → Sz a (v i)) (ha : a + a ≤ 8000) {E1 E2 : EV} :
    ∀ (L : List Nat) (b : Nat) (e : EV), (∀ e b, guardD o al [.fz d, E1, E2, .fz (.int ((b : Nat) : Int)), e]) → (∀ i ∈ L, i < n) → b < n → (∀ e, Q [.fz d, E1, E2, .fz (.int ((bestOf v b L : Nat) : Int)), e]) →
    forD o al (gNm 4) (mSet 3 (mIf (mTst (mCall fLess (mCons (mIx (mSq (mVar 0)) (mVar 4)) (mCons (mIx (mSq (mVar 0)) (mVar 3)) mNil)))) (mVar 4) (mVar 3))) { nx := Q, rt := rt, bk := bk, ct := ct } (natsD L) [.fz d, E1, E2, .fz (.int ((b : Nat) : Int)), e]
  | [], b, e, hg, _, _, hQ => ⟨hg e b, hQ e⟩
  | k :: L, b, e, hg, hL, hb, hQ => by
    refine ⟨hg e b, ?_⟩
    have hk := hL k List.mem_cons_self
    have body : ∀ K : En → Prop, (∀ e, K [.fz d, E1, E2, .fz (.int (((if v k < v b then k else b : Nat) : Nat) : Int)), e]) →
        (gNm 4) (.int ((k : Nat) : Int)) [.fz d, E1, E2, .fz (.int ((b : Nat) : Int)), e] fun G1 => (mSet 3 (mIf (mTst (mCall fLess (mCons (mIx (mSq (mVar 0)) (mVar 4)) (mCons (mIx (mSq (mVar 0)) (mVar 3)) mNil)))) (mVar 4) (mVar 3))) { nx := K, rt := rt, bk := Q, ct := K } G1 := by
      intro K hK
      rcases hd with rfl | rfl
      all_goals
        lcg_off
        rw [atD_vec hk, atD_vec hb]
        refine ⟨_, _, a, a, rfl, hs k hk, hs b hb, ha, ?_⟩
        by_cases h : v k < v b
        · simp only [h, decide_true, if_true] at hK ⊢
          exact hK _
        · simp only [h, decide_false, Bool.false_eq_true, if_false] at hK ⊢
          exact hK _
    refine body _ fun e' => ?_
    refine best_loop hd hs ha L (if v k < v b then k else b) e' hg (fun i hi => hL i (List.mem_cons_of_mem _ hi)) (by split <;> assumption) hQ
theorem bestOf_facts {v : Nat → Rat} : ∀ (L : List Nat) (b : Nat), (bestOf v b L = b ∨ bestOf v b L ∈ L) ∧ v (bestOf v b L) ≤ v b ∧ (∀ i ∈ L, v (bestOf v b L) ≤ v i)
  | [], b => ⟨.inl rfl, Rat.le_refl, fun _ h => by cases h⟩
  | k :: L, b => by
    have e : bestOf v b (k :: L) = bestOf v (if v k < v b then k else b) L := rfl
    rw [e]
    obtain ⟨h1, h2, h3⟩ := bestOf_facts (v := v) L (if v k < v b then k else b)
    by_cases h : v k < v b
    · rw [if_pos h] at h1 h2 h3 ⊢
      refine ⟨.inr ?_, Rat.le_trans h2 (Rat.le_of_lt h), fun i hi => ?_⟩
      · rcases h1 with z | z
        · rw [z]; exact List.mem_cons_self
        · exact List.mem_cons_of_mem _ z
      · rcases List.mem_cons.mp hi with rfl | hi
        · exact h2
        · exact h3 i hi
    · rw [if_neg h] at h1 h2 h3 ⊢
      refine ⟨h1.imp id (List.mem_cons_of_mem _), h2, fun i hi => ?_⟩
      rcases List.mem_cons.mp hi with rfl | hi
      · exact Rat.le_trans h2 (Rat.not_lt.mp h)
      · exact h3 i hi
/-- in an ascending list the best one is the first of the least -/
theorem bestOf_ltp {v : Nat → Rat} : ∀ (L : List Nat) (b : Nat), (b :: L).Pairwise (· < ·) → ∀ i ∈ b :: L, i ≠ bestOf v b L → ltp v (bestOf v b L) i
  | [], b, _, i, hi, hne => absurd (List.mem_singleton.mp hi) hne
  | k :: L, b, hp, i, hi, hne => by
    have e : bestOf v b (k :: L) = bestOf v (if v k < v b then k else b) L := rfl
    rw [e] at hne ⊢
    rw [List.pairwise_cons, List.pairwise_cons] at hp
    obtain ⟨hb, hk, hL⟩ := hp
    by_cases h : v k < v b
    · rw [if_pos h] at hne ⊢
      have ih := bestOf_ltp (v := v) L k (List.pairwise_cons.mpr ⟨hk, hL⟩)
      rcases List.mem_cons.mp hi with rfl | hi
      · have := (bestOf_facts (v := v) L k).2.1
        exact .inl (by grind)
      · exact ih i hi hne
    · rw [if_neg h] at hne ⊢
      have hp2 : (b :: L).Pairwise (· < ·) := List.pairwise_cons.mpr ⟨fun x hx => hb x (List.mem_cons_of_mem _ hx), hL⟩
      have ih := bestOf_ltp (v := v) L b hp2
      rcases List.mem_cons.mp hi with rfl | hi
      · exact ih i List.mem_cons_self hne
      · rcases List.mem_cons.mp hi with rfl | hi
        · have f := (bestOf_facts (v := v) L b)
          have hbk := hb i List.mem_cons_self
          rcases f.1 with z | z
          · rw [z]; unfold ltp; grind
          · by_cases zb : bestOf v b L = b
            · rw [zb]; unfold ltp; grind
            · have := ih b List.mem_cons_self (fun e => zb e.symm)
              have h2 : ltp v b i := by unfold ltp; grind
              exact ltp_trans this h2
        · exact ih i (List.mem_cons_of_mem _ hi) hne
end DL
set_option Elab.async false
set_option linter.all false
set_option autoImplicit false
set_option maxRecDepth 100000
namespace DL
open PySem PySem.Spec
open PyProof.Rows hiding St
open L2
local macro_rules | `(tactic| lcg_off) => `(tactic| simp only [mVar, mC, mNil, mCons, mTup, mTupF, mLst, mFz, mOp, oI0, oI, oEq, oNe, oIsN, oNotN, oIsB, oIsNotB, oCatT, oCatL, oRepT, mRepL, mIx, mSq, mOwn, mTst, mAnd, mOr, mNot, mAndV, mOrV, mNotV, mIf, mNeg, mCall, mCB, cAbs, cInt, mLen, mTupO, mLstO, mLrg1, mSum, mAny, mAll, mIndex, mNoP, mPart, mSlT, mSlL, mIsi, mDGet, mDisp, mPairs, mWeak, mSeqI, mRange1, mRange2, mYes, gNm, gTupD, gConsD, gNilD, mLc, mNext, mSeq, mBreak, mCont, mAsg, mSet, mSetOw, mPar, mPar3, mParO, mParO1, mParOO, mDrop, mRet, mRetN, mIfS, mGive, mApp, mSetIx, mIns, mRem, isOw, onOw, mEqQ, mNeQ, mNewT, mPutT, onDt, mGetT, mFor, startD, List.map_cons, List.map_nil, List.length_cons, List.length_nil, List.cons_append, List.nil_append, List.getElem?_cons_zero, List.getElem?_cons_succ, List.set_cons_zero, List.set_cons_succ, List.replicate_succ, List.replicate_zero, Nat.reduceAdd, Nat.reduceSub, Nat.zero_add, Nat.sub_self, decide_eq_true_eq, Bool.not_eq_true, Bool.not_eq_eq_eq_not, if_true, if_false, ite_true, ite_false, Bool.false_eq_true, noOw, wipeD, List.all_cons, List.all_nil, Bool.and_true, true_and, and_true, D.isNon, Bool.not_true, Bool.not_false])
theorem intsOf_nats (L : List Nat) : intsOf (natsD L) = some (L.map fun i => ((i : Nat) : Int)) := by
  have : natsD L = (L.map fun i => ((i : Nat) : Int)).map D.int := by unfold natsD; rw [List.map_map]; rfl
  rw [this, intsOf_map]
theorem idxOf_cast (b : Nat) : ∀ L : List Nat, (L.map fun i => ((i : Nat) : Int)).idxOf ((b : Nat) : Int) = L.idxOf b
  | [] => rfl
  | a :: L => by
    rw [List.map_cons, List.idxOf_cons, List.idxOf_cons, idxOf_cast b L]
    have : (((a : Nat) : Int) == ((b : Nat) : Int)) = (a == b) := by
      rw [Bool.eq_iff_iff]
      simp only [beq_iff_eq]
      omega
    rw [this]
theorem erase_cast (j : Nat) : ∀ L : List Nat, ((L.map fun i => ((i : Nat) : Int)).eraseIdx j) = (L.eraseIdx j).map fun i => ((i : Nat) : Int)
  | [] => rfl
  | a :: L => by
    cases j with
    | zero => rfl
    | succ j => rw [List.map_cons, List.eraseIdx_cons_succ, List.eraseIdx_cons_succ, List.map_cons, erase_cast j L]
def without (b : Nat) (L : List Nat) : List Nat := L.eraseIdx (L.idxOf b)
theorem without_cons (a b : Nat) (L : List Nat) : without b (a :: L) = if a = b then L else a :: without b L := by
  unfold without
  rw [List.idxOf_cons]
  by_cases h : a = b
  · subst h
    simp
  · have : (a == b) = false := beq_eq_false_iff_ne.mpr h
    simp [this, h]
theorem without_mem {b i : Nat} : ∀ L : List Nat, L.Pairwise (· < ·) → (i ∈ without b L ↔ i ∈ L ∧ i ≠ b)
  | [], _ => by simp [without]
  | a :: L, h => by
    rw [List.pairwise_cons] at h
    rw [without_cons]
    by_cases e : a = b
    · rw [if_pos e]
      subst e
      constructor
      · intro hi
        have := h.1 i hi
        exact ⟨List.mem_cons_of_mem _ hi, by omega⟩
      · rintro ⟨hi, hne⟩
        rcases List.mem_cons.mp hi with z | z
        · exact absurd z hne
        · exact z
    · rw [if_neg e, List.mem_cons, without_mem L h.2, List.mem_cons]
      constructor
      · rintro (z | z)
        · exact ⟨.inl z, by omega⟩
        · exact ⟨.inr z.1, z.2⟩
      · rintro ⟨z | z, hne⟩
        · exact .inl z
        · exact .inr ⟨z, hne⟩
theorem without_asc {b : Nat} {L : List Nat} (h : L.Pairwise (· < ·)) : (without b L).Pairwise (· < ·) := h.sublist (List.eraseIdx_sublist _ _)
theorem without_length {b : Nat} {L : List Nat} (h : b ∈ L) : (without b L).length < L.length := by
  unfold without
  rw [List.length_eraseIdx_of_lt (List.idxOf_lt_length_iff.mpr h)]
  have := List.length_pos_of_mem h
  omega
theorem pl_nats (L : List Nat) : (D.lst (natsD L)).pl 60 = true := by
  show (natsD L).all (D.pl 59) = true
  rw [List.all_eq_true]
  intro x hx
  obtain ⟨i, _, rfl⟩ := List.mem_map.mp hx
  rfl
theorem eqv_nil (xs : List D) : D.eqv (.lst xs) (.lst []) = xs.isEmpty := by
  cases xs with
  | nil => rfl
  | cons x r => rfl
theorem rng_asc (n : Nat) : (List.range n).Pairwise (· < ·) := List.pairwise_lt_range
theorem p_sorted_places : ∀ ds Q, fPlaces ds Q → b_sorted_places fLess { nx := fun _ => Q .non, rt := Q } (startD N_sorted_places ds) := by
  rintro ds Q ⟨d, n, v, a, rfl, hd, hs, hn, ha, hQ⟩
  have hlen : ∀ (G : En) (Qe : List D → Prop), G[0]? = some (.fz d) → (-1000000 ≤ ((n : Nat) : Int) ∧ ((n : Nat) : Int) ≤ 1000000 ∧ Qe (natsD (List.range n))) → mLrg1 (mLen (mSq (mVar 0))) G Qe := by
    intro G Qe hG hq
    unfold mLrg1 mLen mSq mVar
    rw [hG]
    rcases hd with rfl | rfl <;> (simp only; rw [vec_length]; simp only [Int.toNat_natCast]; exact hq)
  unfold b_sorted_places
  simp only [mSeq, mParOO]
  refine hlen (startD N_sorted_places [d]) _ rfl ⟨by omega, by omega, ?_⟩
  lcg_off
  refine ⟨by decide, fun p q => ?_⟩
  refine ⟨fun m G => ∃ (R F : List Nat) (e3 e4 : EV), G = [.fz d, .ow p (.lst (natsD R)), .ow q (.lst (natsD F)), e3, e4] ∧ R.Pairwise (· < ·) ∧ F.Pairwise (ltp v) ∧ (∀ f ∈ F, ∀ r ∈ R, ltp v f r) ∧ (∀ i, (i ∈ F ∨ i ∈ R) ↔ i < n) ∧ m = R.length ∧ F.length + R.length ≤ n,
    ⟨n, List.range n, [], .un, .un, rfl, rng_asc n, .nil, (fun f hf => by cases hf), (fun i => by simp), by simp, by simp⟩, ?_⟩
  rintro m G ⟨R, F, e3, e4, rfl, hR, hF, hFR, hm, rfl, hl⟩
  lcg_off
  refine ⟨by decide, pl_nats R, rfl, ?_⟩
  rw [show sqD true (natsD R) = .lst (natsD R) from rfl, eqv_nil]
  cases R with
  | nil =>
    simp only [natsD, List.map_nil, List.isEmpty_nil, Bool.true_eq_false, if_false]
    have e : F = places v n := srt_eq ⟨hF, fun i => by have := hm i; simpa using this⟩
    rw [e]; exact hQ
  | cons b R' =>
    have e : (natsD (b :: R')).isEmpty = false := rfl
    rw [e]
    simp only [if_true]
    have hb : b < n := (hm b).mp (.inr List.mem_cons_self)
    rw [show (0 : Int) = ((0 : Nat) : Int) from rfl, atD_nats (L := b :: R') (i := 0) (by simp)]
    have hbest : bestOf v b (b :: R') = bestOf v b R' := by
      show bestOf v (if v b < v b then b else b) R' = _
      rw [if_neg Rat.lt_irrefl]
    refine best_loop hd hs ha (b :: R') b _ (fun e b => rfl) (fun i hi => (hm i).mp (.inr hi)) hb fun e => ?_
    rw [hbest]
    have hbm : bestOf v b R' ∈ b :: R' := by
      rcases (bestOf_facts (v := v) R' b).1 with z | z
      · rw [z]; exact List.mem_cons_self
      · exact List.mem_cons_of_mem _ z
    lcg_off
    refine ⟨by unfold natsD; rw [List.length_map]; omega, ?_⟩
    rw [intsOf_nats]
    simp only
    refine ⟨List.mem_map_of_mem hbm, ?_⟩
    rw [idxOf_cast, erase_cast]
    have hap : ∀ i ∈ b :: R', i ≠ bestOf v b R' → ltp v (bestOf v b R') i := bestOf_ltp R' b hR
    refine ⟨(without (bestOf v b R') (b :: R')).length, without_length hbm, without (bestOf v b R') (b :: R'), F ++ [bestOf v b R'], .fz (.int ((bestOf v b R' : Nat) : Int)), e, ?_, without_asc hR, ?_, ?_, ?_, rfl, ?_⟩
    · unfold without natsD
      rw [List.map_map, List.map_append]; rfl
    · rw [List.pairwise_append]
      refine ⟨hF, List.pairwise_singleton _ _, fun f hf x hx => ?_⟩
      rw [List.mem_singleton.mp hx]
      exact hFR f hf _ hbm
    · intro f hf r hr
      obtain ⟨hr1, hr2⟩ := (without_mem _ hR).mp hr
      rcases List.mem_append.mp hf with z | z
      · exact hFR f z r hr1
      · rw [List.mem_singleton.mp z]
        exact hap r hr1 hr2
    · intro i
      rw [← hm i, List.mem_append, without_mem _ hR, List.mem_singleton]
      constructor
      · rintro ((z | z) | z)
        · exact .inl z
        · exact .inr (by rw [z]; exact hbm)
        · exact .inr z.1
      · rintro (z | z)
        · exact .inl (.inl z)
        · by_cases e : i = bestOf v b R'
          · exact .inl (.inr e)
          · exact .inr ⟨z, e⟩
    · have := without_length hbm
      rw [List.length_append, List.length_singleton]
      simp only [List.length_cons] at this hl ⊢
      omega
end DL
set_option Elab.async false
set_option linter.all false
set_option autoImplicit false
set_option maxRecDepth 100000
namespace DL
open PySem PySem.Spec
open PyProof.Rows hiding St
open L2
local macro_rules | `(tactic| lcg_off) => `(tactic| simp only [mVar, mC, mNil, mCons, mTup, mTupF, mLst, mFz, mOp, oI0, oI, oEq, oNe, oIsN, oNotN, oIsB, oIsNotB, oCatT, oCatL, oRepT, mRepL, mIx, mSq, mOwn, mTst, mAnd, mOr, mNot, mAndV, mOrV, mNotV, mIf, mNeg, mCall, mCB, cAbs, cInt, mLen, mTupO, mLstO, mLrg1, mSum, mAny, mAll, mIndex, mNoP, mPart, mSlT, mSlL, mIsi, mDGet, mDisp, mPairs, mWeak, mSeqI, mRange1, mRange2, mYes, gNm, gTupD, gConsD, gNilD, mLc, mNext, mSeq, mBreak, mCont, mAsg, mSet, mSetOw, mPar, mPar3, mParO, mParO1, mParOO, mDrop, mRet, mRetN, mIfS, mGive, mApp, mSetIx, mIns, mRem, isOw, onOw, mEqQ, mNeQ, mNewT, mPutT, onDt, mGetT, mFor, startD, List.map_cons, List.map_nil, List.length_cons, List.length_nil, List.cons_append, List.nil_append, List.getElem?_cons_zero, List.getElem?_cons_succ, List.set_cons_zero, List.set_cons_succ, List.replicate_succ, List.replicate_zero, Nat.reduceAdd, Nat.reduceSub, Nat.zero_add, Nat.sub_self, decide_eq_true_eq, Bool.not_eq_true, Bool.not_eq_eq_eq_not, if_true, if_false, ite_true, ite_false, Bool.false_eq_true, noOw, wipeD, List.all_cons, List.all_nil, Bool.and_true, true_and, and_true, D.isNon, Bool.not_true, Bool.not_false])
/-! ## the greedy walk: worst, worst_weights -/
def tk (c : Nat → Rat) (k : Nat) (l : Rat) : Rat := if c k < l then c k else l
def gF (c v : Nat → Rat) : List Nat → Rat → Rat → Rat
  | [], _, f => f
  | k :: L, l, f => gF c v L (l - tk c k l) (f + tk c k l * v k)
def gL (c : Nat → Rat) : List Nat → Rat → Rat
  | [], l => l
  | k :: L, l => gL c L (l - tk c k l)
def upf (w : Nat → Rat) (k : Nat) (x : Rat) : Nat → Rat := fun i => if i = k then x else w i
def gW (c : Nat → Rat) (s : Rat) : List Nat → Rat → (Nat → Rat) → (Nat → Rat)
  | [], _, w => w
  | k :: L, l, w => gW c s L (l - tk c k l) (upf w k (tk c k l / s))
theorem tk_sz {c : Nat → Rat} {k b j : Nat} {l : Rat} (h1 : Sz b (c k)) (h2 : Sz j l) (hj : b ≤ j) : Sz j (tk c k l) := by
  unfold tk
  split
  · exact h1.mono hj
  · exact h2
theorem lt_sz {c : Nat → Rat} {k b j : Nat} {l : Rat} (h1 : Sz b (c k)) (h2 : Sz j l) : Sz (j + b + 1) (l - tk c k l) := by
  unfold tk
  split
  · exact h2.sub h1
  · rw [Rat.sub_self]; exact sz01.mono (by omega)
theorem atL2 {qs : D} {n : Nat} {v : Nat → Rat} (hd : isV qs n v) : qs = .lst (vec n v) ∨ qs = .tup (vec n v) := hd
def worstBody : SD := (mSeq (mSet 6 (mCall fLeast2 (mCons (mFz (mLst (mCons (mVar 3) (mCons (mIx (mSq (mVar 1)) (mVar 5)) mNil)))) mNil))) (mSeq (mSet 4 (mCall (fBin (· + ·)) (mCons (mVar 4) (mCons (mCall (fBin (· * ·)) (mCons (mVar 6) (mCons (mIx (mSq (mVar 0)) (mVar 5)) mNil))) mNil)))) (mSet 3 (mCall (fBin (· - ·)) (mCons (mVar 3) (mCons (mVar 6) mNil))))))
theorem worst_loop {al : List D} {d e : D} {s : EV} {n a b B M : Nat} {v c : Nat → Rat} {De : EndsD} (hd : isV d n v) (he : isV e n c) (hs : ∀ i, i < n → Sz a (v i) ∧ Sz b (c i)) (hbB : B + B ≤ 4000) (hM : M ≤ 8000) :
    ∀ (L : List Nat) (l f : Rat) (j m : Nat) (e5 e6 : EV), (∀ i ∈ L, i < n) → b ≤ j → Sz j l → Sz m f → j + L.length * (b + 1) ≤ B → m + L.length * (B + a + 1) ≤ M →
    (∀ l' e5 e6, Sz M (gF c v L l f) → De.nx [.fz d, .fz e, s, .fz (encQ l'), .fz (encQ (gF c v L l f)), e5, e6]) →
    forD none al (gNm 5) worstBody De (natsD L) [.fz d, .fz e, s, .fz (encQ l), .fz (encQ f), e5, e6]
  | [], l, f, j, m, e5, e6, _, _, hl, hf, _, hm, hQ => ⟨trivial, hQ l e5 e6 (hf.mono (by simpa using hm))⟩
  | k :: L, l, f, j, m, e5, e6, hL, hbj, hl, hf, hj, hm, hQ => by
    refine ⟨trivial, ?_⟩
    have hk := hL k List.mem_cons_self
    have ht := tk_sz (hs k hk).2 hl hbj
    have hjB : j ≤ B := by omega
    rw [List.length_cons, Nat.add_mul] at hm hj
    have hl' := lt_sz (hs k hk).2 hl
    have body : ∀ K : En → Prop, K [.fz d, .fz e, s, .fz (encQ (l - tk c k l)), .fz (encQ (f + tk c k l * v k)), .fz (.int ((k : Nat) : Int)), .fz (encQ (tk c k l))] →
        (gNm 5) (.int ((k : Nat) : Int)) [.fz d, .fz e, s, .fz (encQ l), .fz (encQ f), e5, e6] fun G1 => worstBody { nx := K, rt := De.rt, bk := De.nx, ct := K } G1 := by
      intro K hK
      unfold worstBody
      rcases hd with rfl | rfl <;> rcases he with rfl | rfl
      all_goals
        lcg_off
        rw [atD_vec hk]
        refine ⟨by decide, _, _, j, b, rfl, hl, (hs k hk).2, by omega, ?_⟩
        dsimp only
        rw [atD_vec hk]
        refine ⟨_, _, j, a, rfl, ht, (hs k hk).1, by omega, ?_⟩
        refine ⟨_, _, m, j + a, rfl, hf, ht.mul (hs k hk).1, by omega, ?_⟩
        refine ⟨_, _, j, j, rfl, hl, ht, by omega, ?_⟩
        exact hK
    refine body _ ?_
    exact worst_loop hd he hs hbB hM L _ _ (j + b + 1) (m + (j + a) + 1) _ _ (fun i hi => hL i (List.mem_cons_of_mem _ hi)) (by omega) hl' (hf.add (ht.mul (hs k hk).1)) (by omega) (by omega) hQ
theorem places_len (v : Nat → Rat) : ∀ n, (places v n).length = n
  | 0 => rfl
  | n + 1 => by
    have h : ∀ L : List Nat, (insP v n L).length = L.length + 1 := by
      intro L
      induction L with
      | nil => rfl
      | cons a L ih =>
        unfold insP
        split
        · rfl
        · rw [List.length_cons, ih]; rfl
    unfold places
    rw [h, places_len v n]
def fWorst : FS := fun ds Q => ∃ (d e : D) (n : Nat) (v c : Nat → Rat) (s : Rat) (a b B M : Nat), ds = [d, e, encQ s] ∧ isV d n v ∧ isV e n c ∧ (∀ i, i < n → Sz a (v i) ∧ Sz b (c i)) ∧ Sz b s ∧ s ≠ 0 ∧ n ≤ 1000 ∧ a ≤ 4000 ∧
  b + n * (b + 1) ≤ B ∧ B ≤ 2000 ∧ 1 + n * (B + a + 1) ≤ M ∧ M + b ≤ 8000 ∧ Q (encQ (gF c v (places v n) s 0 / s))
theorem p_worst : ∀ ds Q, fWorst ds Q → b_worst fPlaces fLeast2 (fBin (· + ·)) (fBin (· * ·)) (fBin (· - ·)) fOver { nx := fun _ => Q .non, rt := Q } (startD N_worst ds) := by
  rintro ds Q ⟨d, e, n, v, c, s, a, b, B, M, rfl, hd, he, hs, hsz, hs0, hn, ha, hB, hB2, hM, hM2, hQ⟩
  unfold b_worst
  lcg_off
  refine ⟨by decide, d, n, v, a, rfl, hd, (fun i hi => (hs i hi).1), hn, by omega, ?_⟩
  simp only
  rw [enc01]
  refine worst_loop (s := .fz (encQ s)) (M := M) (B := B) (a := a) (b := b) hd he hs (by omega) (by omega) (places v n) s 0 b 1 _ _ (fun i hi => ((places_srt v n).2 i).mp hi) (Nat.le_refl _) hsz sz01 (by rw [places_len]; exact hB) (by rw [places_len]; exact hM) fun l' e5 e6 hz => ?_
  lcg_off
  exact ⟨_, _, M, b, rfl, hs0, hz, hsz, hM2, hQ⟩
def wwBody : SD := (mSeq (mSet 6 (mCall fLeast2 (mCons (mFz (mLst (mCons (mVar 3) (mCons (mIx (mSq (mVar 1)) (mVar 5)) mNil)))) mNil))) (mSeq (mSetIx 4 (mVar 5) (mCall fOver (mCons (mVar 6) (mCons (mVar 2) mNil)))) (mSet 3 (mCall (fBin (· - ·)) (mCons (mVar 3) (mCons (mVar 6) mNil))))))
theorem vec_set {n k : Nat} (w : Nat → Rat) (x : Rat) (h : k < n) : (vec n w).set k (encQ x) = vec n (upf w k x) := by
  apply List.ext_getElem?
  intro i
  unfold vec
  rw [List.getElem?_set, List.length_map, List.length_range, List.getElem?_map, List.getElem?_map]
  by_cases hi : i < n
  · rw [List.getElem?_range hi]
    unfold upf
    by_cases e : k = i
    · subst e; simp [h]
    · have e2 : ¬ i = k := fun z => e z.symm
      simp [e, e2]
  · rw [List.getElem?_eq_none (by simpa using hi)]
    by_cases e : k = i
    · omega
    · simp [e]
theorem ixN_nat {n k : Nat} (h : k < n) : ixN n ((k : Nat) : Int) = some k := by
  unfold ixN
  simp
  omega
theorem ww_loop {al : List D} {d e : D} {p : Addr} {n b B : Nat} {c : Nat → Rat} {s : Rat} {De : EndsD} (he : isV e n c) (hs : ∀ i, i < n → Sz b (c i)) (hsz : Sz b s) (hs0 : s ≠ 0) (hbB : B + B ≤ 4000) :
    ∀ (L : List Nat) (l : Rat) (w : Nat → Rat) (j : Nat) (e5 e6 : EV), (∀ i ∈ L, i < n) → b ≤ j → Sz j l → j + L.length * (b + 1) ≤ B →
    (∀ l' e5 e6, De.nx [.fz d, .fz e, .fz (encQ s), .fz (encQ l'), .ow p (.lst (vec n (gW c s L l w))), e5, e6]) →
    forD none al (gNm 5) wwBody De (natsD L) [.fz d, .fz e, .fz (encQ s), .fz (encQ l), .ow p (.lst (vec n w)), e5, e6]
  | [], l, w, j, e5, e6, _, _, hl, _, hQ => ⟨trivial, hQ l e5 e6⟩
  | k :: L, l, w, j, e5, e6, hL, hbj, hl, hj, hQ => by
    refine ⟨trivial, ?_⟩
    have hk := hL k List.mem_cons_self
    have ht := tk_sz (hs k hk) hl hbj
    have hjB : j ≤ B := by omega
    rw [List.length_cons, Nat.add_mul] at hj
    have hl' := lt_sz (hs k hk) hl
    have body : ∀ K : En → Prop, K [.fz d, .fz e, .fz (encQ s), .fz (encQ (l - tk c k l)), .ow p (.lst (vec n (upf w k (tk c k l / s)))), .fz (.int ((k : Nat) : Int)), .fz (encQ (tk c k l))] →
        (gNm 5) (.int ((k : Nat) : Int)) [.fz d, .fz e, .fz (encQ s), .fz (encQ l), .ow p (.lst (vec n w)), e5, e6] fun G1 => wwBody { nx := K, rt := De.rt, bk := De.nx, ct := K } G1 := by
      intro K hK
      unfold wwBody
      rcases he with rfl | rfl
      all_goals
        lcg_off
        rw [atD_vec hk]
        refine ⟨by decide, _, _, j, b, rfl, hl, hs k hk, by omega, ?_⟩
        refine ⟨_, _, j, b, rfl, hs0, ht, hsz, by omega, ?_⟩
        rw [vec_length, ixN_nat hk]
        simp only
        rw [vec_set w _ hk]
        refine ⟨_, _, j, j, rfl, hl, ht, by omega, ?_⟩
        exact hK
    refine body _ ?_
    exact ww_loop he hs hsz hs0 hbB L _ _ (j + b + 1) _ _ (fun i hi => hL i (List.mem_cons_of_mem _ hi)) (by omega) hl' (by omega) hQ
def fWW : FS := fun ds Q => ∃ (d e : D) (n : Nat) (v c : Nat → Rat) (s : Rat) (a b B : Nat), ds = [d, e, encQ s] ∧ isV d n v ∧ isV e n c ∧ (∀ i, i < n → Sz a (v i) ∧ Sz b (c i)) ∧ Sz b s ∧ s ≠ 0 ∧ n ≤ 1000 ∧ a ≤ 4000 ∧
  b + n * (b + 1) ≤ B ∧ B ≤ 2000 ∧ Q (.tup (vec n (gW c s (places v n) s fun _ => 0)))
theorem flat_rep (x : D) : ∀ n, (List.replicate n [x]).flatten = List.replicate n x
  | 0 => rfl
  | n + 1 => by rw [List.replicate_succ, List.flatten_cons, flat_rep x n]; rfl
theorem vec_const (x : Rat) : ∀ n, List.replicate n (encQ x) = vec n fun _ => x := by
  intro n
  unfold vec
  rw [List.map_const', List.length_range]
theorem p_worst_weights : ∀ ds Q, fWW ds Q → b_worst_weights fPlaces fLeast2 fOver (fBin (· - ·)) { nx := fun _ => Q .non, rt := Q } (startD N_worst_weights ds) := by
  rintro ds Q ⟨d, e, n, v, c, s, a, b, B, rfl, hd, he, hs, hsz, hs0, hn, ha, hB, hB2, hQ⟩
  have main : ∀ p, mFor (mSeqI (mSq (mCall fPlaces (mCons (mVar 0) mNil)))) (gNm 5) wwBody { nx := mRet (mTupO (mOwn 4)) { nx := fun x => Q .non, rt := Q }, rt := Q } [.fz d, .fz e, .fz (encQ s), .fz (encQ s), .ow p (.lst (vec n fun _ => 0)), .un, .un] := by
    intro p
    lcg_off
    refine ⟨d, n, v, a, rfl, hd, (fun i hi => (hs i hi).1), hn, by omega, ?_⟩
    dsimp only
    refine ww_loop (B := B) he (fun i hi => (hs i hi).2) hsz hs0 (by omega) (places v n) s _ b _ _ (fun i hi => ((places_srt v n).2 i).mp hi) (Nat.le_refl _) hsz (by rw [places_len]; exact hB) fun l' e5 e6 => ?_
    lcg_off
    exact hQ
  unfold b_worst_weights
  have e2 : (List.replicate ((n : Int)).toNat [encQ 0]).flatten = vec n fun _ => 0 := by
    rw [Int.toNat_natCast, flat_rep, vec_const]
  rcases hd with rfl | rfl
  all_goals
    lcg_off
    refine ⟨by decide, ?_⟩
    rw [vec_length, enc01]
    refine ⟨by omega, by omega, by omega, by omega, fun p => ?_⟩
    rw [e2]
    exact main p
end DL
set_option Elab.async false
set_option linter.all false
set_option autoImplicit false
set_option maxRecDepth 100000
namespace DL
open PySem PySem.Spec
open PyProof.Rows hiding St
open L2
local macro_rules | `(tactic| lcg_off) => `(tactic| simp only [mVar, mC, mNil, mCons, mTup, mTupF, mLst, mFz, mOp, oI0, oI, oEq, oNe, oIsN, oNotN, oIsB, oIsNotB, oCatT, oCatL, oRepT, mRepL, mIx, mSq, mOwn, mTst, mAnd, mOr, mNot, mAndV, mOrV, mNotV, mIf, mNeg, mCall, mCB, cAbs, cInt, mLen, mTupO, mLstO, mLrg1, mSum, mAny, mAll, mIndex, mNoP, mPart, mSlT, mSlL, mIsi, mDGet, mDisp, mPairs, mWeak, mSeqI, mRange1, mRange2, mYes, gNm, gTupD, gConsD, gNilD, mLc, mNext, mSeq, mBreak, mCont, mAsg, mSet, mSetOw, mPar, mPar3, mParO, mParO1, mParOO, mDrop, mRet, mRetN, mIfS, mGive, mApp, mSetIx, mIns, mRem, isOw, onOw, mEqQ, mNeQ, mNewT, mPutT, onDt, mGetT, mFor, startD, List.map_cons, List.map_nil, List.length_cons, List.length_nil, List.cons_append, List.nil_append, List.getElem?_cons_zero, List.getElem?_cons_succ, List.set_cons_zero, List.set_cons_succ, List.replicate_succ, List.replicate_zero, Nat.reduceAdd, Nat.reduceSub, Nat.zero_add, Nat.sub_self, decide_eq_true_eq, Bool.not_eq_true, Bool.not_eq_eq_eq_not, if_true, if_false, ite_true, ite_false, Bool.false_eq_true, noOw, wipeD, List.all_cons, List.all_nil, Bool.and_true, true_and, and_true, D.isNon, Bool.not_true, Bool.not_false])
/-! ## the law's places -/
theorem ins_at {v : Nat → Rat} {k : Nat} : ∀ L : List Nat, L.Pairwise (ltp v) → ∃ at_, at_ ≤ L.length ∧ insP v k L = L.take at_ ++ [k] ++ L.drop at_ ∧ (∀ j, (h : j < L.length) → (¬ v k < v L[j] ↔ j < at_))
  | [], _ => ⟨0, by simp, rfl, fun j h => by simp at h⟩
  | a :: L, h => by
    rw [List.pairwise_cons] at h
    by_cases e : v k < v a
    · refine ⟨0, by simp, by simp [insP, e], fun j hj => ?_⟩
      constructor
      · intro z
        exfalso
        apply z
        cases j with
        | zero => exact e
        | succ j =>
          have := h.1 _ (List.getElem_mem (Nat.lt_of_succ_lt_succ hj))
          rw [List.getElem_cons_succ]
          unfold ltp at this
          grind
      · omega
    · obtain ⟨m, h1, h2, h3⟩ := ins_at (k := k) L h.2
      refine ⟨m + 1, by rw [List.length_cons]; omega, by simp [insP, e, h2], fun j hj => ?_⟩
      cases j with
      | zero => simp [e]
      | succ j =>
        rw [List.getElem_cons_succ, h3 j (Nat.lt_of_succ_lt_succ hj)]
        omega
/-- the last place behind which it goes, read off as the code reads it -/
def atOf (v : Nat → Rat) (k : Nat) (L : List Nat) : Nat → Nat
  | 0 => 0
  | j + 1 => if v k < v (L[j]?.getD 0) then atOf v k L j else j + 1
theorem atOf_eq {v : Nat → Rat} {k : Nat} {L : List Nat} {m : Nat} (hm : m ≤ L.length) (h : ∀ j, (h : j < L.length) → (¬ v k < v L[j] ↔ j < m)) : ∀ j, j ≤ L.length → atOf v k L j = min j m
  | 0, _ => by simp [atOf]
  | j + 1, hj => by
    unfold atOf
    have := h j hj
    rw [List.getElem?_eq_getElem hj, Option.getD_some, atOf_eq hm h j (by omega)]
    by_cases e : v k < v L[j]
    · rw [if_pos e]
      have : ¬ j < m := fun z => (this.mpr z) e
      omega
    · rw [if_neg e]
      have := this.mp e
      omega
theorem at_loop {al : List D} {De : EndsD} {d : D} {n a k : Nat} {v : Nat → Rat} {p : Addr} {L : List Nat} (hd : isV d n v) (hs : ∀ i, i < n → Sz a (v i)) (ha : a + a ≤ 8000) (hk : k < n) (hL : ∀ i ∈ L, i < n) :
    ∀ (r j : Nat) (e4 : EV), j + r = L.length → (∀ e4, De.nx [.fz d, .ow p (.lst (natsD L)), .fz (.int ((k : Nat) : Int)), .fz (.int ((atOf v k L L.length : Nat) : Int)), e4]) →
    forD none al (gNm 4) (mIfS (mNot (mTst (mCall fLess (mCons (mIx (mSq (mVar 0)) (mVar 2)) (mCons (mIx (mSq (mVar 0)) (mIx (mOwn 1) (mVar 4))) mNil))))) (mSet 3 (mOp (oI0 fun i j => .int (i + j)) (mVar 4) (mC (.int 1)))) mNext) De
      ((List.range' j r).map fun i => D.int ((i : Nat) : Int)) [.fz d, .ow p (.lst (natsD L)), .fz (.int ((k : Nat) : Int)), .fz (.int ((atOf v k L j : Nat) : Int)), e4]
  | 0, j, e4, hj, hQ => by
    have : j = L.length := by omega
    subst this
    exact ⟨trivial, hQ e4⟩
  | r + 1, j, e4, hj, hQ => by
    have hj' : j < L.length := by omega
    have hLj := hL _ (List.getElem_mem hj')
    rw [List.range'_succ, List.map_cons]
    refine ⟨trivial, ?_⟩
    have e : atOf v k L (j + 1) = if v k < v L[j] then atOf v k L j else j + 1 := by
      rw [atOf, List.getElem?_eq_getElem hj']; rfl
    have ih := fun e4 => at_loop (al := al) hd hs ha hk hL r (j + 1) e4 (by omega) hQ
    rw [e] at ih
    rcases hd with rfl | rfl
    all_goals
      lcg_off
      rw [atD_vec hk, atD_nats hj']
      dsimp only
      rw [atD_vec hLj]
      refine ⟨_, _, a, a, rfl, hs k hk, hs _ hLj, ha, ?_⟩
      by_cases z : v k < v L[j]
      · simp only [z, decide_true, if_true, Bool.true_eq_false, if_false] at ih ⊢
        exact ih _
      · simp only [z, decide_false, if_true, if_false] at ih ⊢
        exact ih _
theorem nats_ins (L : List Nat) (m k : Nat) : (natsD L).take m ++ [D.int ((k : Nat) : Int)] ++ (natsD L).drop m = natsD (L.take m ++ [k] ++ L.drop m) := by
  unfold natsD
  rw [← List.map_take, ← List.map_drop, List.map_append, List.map_append]; rfl
theorem lp_loop {al : List D} {De : EndsD} {d : D} {n a : Nat} {v : Nat → Rat} {p : Addr} (hd : isV d n v) (hs : ∀ i, i < n → Sz a (v i)) (ha : a + a ≤ 8000) (hn : n ≤ 1000) :
    ∀ (r k : Nat) (e2 e3 e4 : EV), k + r = n → (∀ e2 e3 e4, De.nx [.fz d, .ow p (.lst (natsD (places v n))), e2, e3, e4]) →
    forD none al (gNm 2) (mSeq (mSet 3 (mC (.int 0))) (mSeq (mFor (mRange1 (mCons (mLen (mOwn 1)) mNil)) (gNm 4) (mIfS (mNot (mTst (mCall fLess (mCons (mIx (mSq (mVar 0)) (mVar 2)) (mCons (mIx (mSq (mVar 0)) (mIx (mOwn 1) (mVar 4))) mNil))))) (mSet 3 (mOp (oI0 fun i j => .int (i + j)) (mVar 4) (mC (.int 1)))) mNext)) (mIns 1 (mCons (mVar 3) (mCons (mVar 2) mNil))))) De
      ((List.range' k r).map fun i => D.int ((i : Nat) : Int)) [.fz d, .ow p (.lst (natsD (places v k))), e2, e3, e4]
  | 0, k, e2, e3, e4, hk, hQ => by
    have : k = n := by omega
    subst this
    exact ⟨trivial, hQ _ _ _⟩
  | r + 1, k, e2, e3, e4, hk, hQ => by
    have hk' : k < n := by omega
    obtain ⟨m, h1, h2, h3⟩ := ins_at (places v k) (k := k) (places_srt v k).1
    have hat : atOf v k (places v k) (places v k).length = m := by
      rw [atOf_eq h1 h3 _ (Nat.le_refl _)]; omega
    have hpl := places_len v k
    rw [List.range'_succ, List.map_cons]
    refine ⟨trivial, ?_⟩
    have ih := fun e2 e3 e4 => lp_loop (al := al) (p := p) hd hs ha hn r (k + 1) e2 e3 e4 (by omega) hQ
    lcg_off
    have hlen : (natsD (places v k)).length = k := by unfold natsD; rw [List.length_map, hpl]
    rw [hlen]
    refine ⟨by omega, by omega, ?_⟩
    rw [Int.toNat_natCast, List.range_eq_range']
    refine at_loop (L := places v k) hd hs ha hk' (fun i hi => Nat.lt_trans (((places_srt v k).2 i).mp hi) hk') k 0 e4 (by rw [hpl]; omega) fun e4 => ?_
    rw [hat]
    lcg_off
    rw [hlen]
    refine ⟨by omega, by omega, by omega, ?_⟩
    rw [Int.toNat_natCast, nats_ins, ← h2]
    exact ih _ _ _
theorem p__law_places : ∀ ds Q, fPlaces ds Q → b__law_places fLess { nx := fun _ => Q .non, rt := Q } (startD N__law_places ds) := by
  rintro ds Q ⟨d, n, v, a, rfl, hd, hs, hn, ha, hQ⟩
  have main : ∀ p, forD none ((List.range n).map fun i => D.int ((i : Nat) : Int)) (gNm 2) (mSeq (mSet 3 (mC (.int 0))) (mSeq (mFor (mRange1 (mCons (mLen (mOwn 1)) mNil)) (gNm 4) (mIfS (mNot (mTst (mCall fLess (mCons (mIx (mSq (mVar 0)) (mVar 2)) (mCons (mIx (mSq (mVar 0)) (mIx (mOwn 1) (mVar 4))) mNil))))) (mSet 3 (mOp (oI0 fun i j => .int (i + j)) (mVar 4) (mC (.int 1)))) mNext)) (mIns 1 (mCons (mVar 3) (mCons (mVar 2) mNil)))))
      { nx := mGive 1 (mRet (mVar 1)) { nx := fun x => Q .non, rt := Q }, rt := Q } ((List.range n).map fun i => D.int ((i : Nat) : Int)) [.fz d, .ow p (.lst []), .un, .un, .un] := by
    intro p
    rw [List.range_eq_range']
    refine lp_loop hd hs ha hn n 0 _ _ _ (by omega) fun e2 e3 e4 => ?_
    lcg_off
    exact hQ
  unfold b__law_places
  rcases hd with rfl | rfl
  all_goals
    lcg_off
    refine ⟨by decide, fun p => ?_⟩
    rw [vec_length, Int.toNat_natCast]
    exact ⟨by omega, by omega, main p⟩
end DL
set_option Elab.async false
set_option linter.all false
set_option autoImplicit false
set_option maxRecDepth 100000
namespace DL
open PySem PySem.Spec
open PyProof.Rows hiding St
open L2
local macro_rules | `(tactic| lcg_off) => `(tactic| simp only [mVar, mC, mNil, mCons, mTup, mTupF, mLst, mFz, mOp, oI0, oI, oEq, oNe, oIsN, oNotN, oIsB, oIsNotB, oCatT, oCatL, oRepT, mRepL, mIx, mSq, mOwn, mTst, mAnd, mOr, mNot, mAndV, mOrV, mNotV, mIf, mNeg, mCall, mCB, cAbs, cInt, mLen, mTupO, mLstO, mLrg1, mSum, mAny, mAll, mIndex, mNoP, mPart, mSlT, mSlL, mIsi, mDGet, mDisp, mPairs, mWeak, mSeqI, mRange1, mRange2, mYes, gNm, gTupD, gConsD, gNilD, mLc, mNext, mSeq, mBreak, mCont, mAsg, mSet, mSetOw, mPar, mPar3, mParO, mParO1, mParOO, mDrop, mRet, mRetN, mIfS, mGive, mApp, mSetIx, mIns, mRem, isOw, onOw, mEqQ, mNeQ, mNewT, mPutT, onDt, mGetT, mFor, startD, List.map_cons, List.map_nil, List.length_cons, List.length_nil, List.cons_append, List.nil_append, List.getElem?_cons_zero, List.getElem?_cons_succ, List.set_cons_zero, List.set_cons_succ, List.replicate_succ, List.replicate_zero, Nat.reduceAdd, Nat.reduceSub, Nat.zero_add, Nat.sub_self, decide_eq_true_eq, Bool.not_eq_true, Bool.not_eq_eq_eq_not, if_true, if_false, ite_true, ite_false, Bool.false_eq_true, noOw, wipeD, List.all_cons, List.all_nil, Bool.and_true, true_and, and_true, D.isNon, Bool.not_true, Bool.not_false])
/-! ## greedy against thresholds, in plain rationals -/
/-- the law's short fall under x -/
def shortF (c v : Nat → Rat) (n : Nat) (x : Rat) : Rat := sm n fun i => if v i < x then c i * (x - v i) else 0
def lsm : List Nat → (Nat → Rat) → Rat
  | [], _ => 0
  | k :: L, f => f k + lsm L f
theorem lsm_app (f : Nat → Rat) : ∀ L M : List Nat, lsm (L ++ M) f = lsm L f + lsm M f
  | [], M => by simp [lsm, Rat.zero_add]
  | k :: L, M => by rw [List.cons_append, lsm, lsm, lsm_app f L M, Rat.add_assoc]
theorem lsm_ins (v f : Nat → Rat) (k : Nat) : ∀ L : List Nat, lsm (insP v k L) f = lsm L f + f k
  | [] => by simp [insP, lsm]; grind
  | a :: L => by
    unfold insP
    split
    · simp only [lsm]; grind
    · simp only [lsm, lsm_ins v f k L]; grind
theorem lsm_places (v f : Nat → Rat) : ∀ n, lsm (places v n) f = sm n f
  | 0 => rfl
  | n + 1 => by
    unfold places
    rw [lsm_ins, lsm_places v f n]; rfl
theorem lsm_congr {f g : Nat → Rat} : ∀ L : List Nat, (∀ i ∈ L, f i = g i) → lsm L f = lsm L g
  | [], _ => rfl
  | k :: L, h => by rw [lsm, lsm, h k List.mem_cons_self, lsm_congr L fun i hi => h i (List.mem_cons_of_mem _ hi)]
theorem lsm_nonneg {f : Nat → Rat} : ∀ L : List Nat, (∀ i ∈ L, 0 ≤ f i) → 0 ≤ lsm L f
  | [], _ => Rat.le_refl
  | k :: L, h => by
    have := lsm_nonneg L fun i hi => h i (List.mem_cons_of_mem _ hi)
    have := h k List.mem_cons_self
    rw [lsm]; grind
/-- taken amounts -/
def gT (c : Nat → Rat) : List Nat → Rat → Rat
  | [], _ => 0
  | k :: L, l => tk c k l + gT c L (l - tk c k l)
theorem tk_le {c : Nat → Rat} {k : Nat} {l : Rat} : tk c k l ≤ c k ∧ tk c k l ≤ l := by
  unfold tk; split <;> grind
theorem tk_nn {c : Nat → Rat} {k : Nat} {l : Rat} (h : 0 ≤ c k) (h2 : 0 ≤ l) : 0 ≤ tk c k l := by
  unfold tk; split <;> assumption
theorem gF_lin (c v : Nat → Rat) : ∀ (L : List Nat) (l f : Rat), gF c v L l f = f + gF c v L l 0
  | [], l, f => by simp [gF]; grind
  | k :: L, l, f => by
    rw [gF, gF, gF_lin c v L _ (f + _), gF_lin c v L _ (0 + _)]; grind
/-- everything is taken -/
theorem gT_all {c : Nat → Rat} : ∀ (L : List Nat) (l : Rat), (∀ i ∈ L, 0 ≤ c i) → 0 ≤ l → l ≤ lsm L c → gT c L l = l
  | [], l, _, h, h2 => by unfold lsm at h2; unfold gT; grind
  | k :: L, l, hc, h, h2 => by
    have hk := hc k List.mem_cons_self
    have hL : ∀ i ∈ L, 0 ≤ c i := fun i hi => hc i (List.mem_cons_of_mem _ hi)
    have hn := lsm_nonneg L hL
    unfold gT
    rw [gT_all L (l - tk c k l) hL (by have := tk_le (c := c) (k := k) (l := l); grind) (by unfold lsm at h2; unfold tk; split <;> grind)]
    grind
/-- greedy is at least every threshold's value -/
theorem gF_ge {c v : Nat → Rat} (x : Rat) : ∀ (L : List Nat) (l : Rat), (∀ i ∈ L, 0 ≤ c i) → 0 ≤ l →
    x * gT c L l - lsm L (fun i => if v i < x then c i * (x - v i) else 0) ≤ gF c v L l 0
  | [], l, _, _ => by unfold gT lsm gF; grind
  | k :: L, l, hc, h => by
    have hk := hc k List.mem_cons_self
    obtain ⟨t1, t2⟩ := tk_le (c := c) (k := k) (l := l)
    have t0 := tk_nn (l := l) hk h
    have ih := gF_ge (v := v) x L (l - tk c k l) (fun i hi => hc i (List.mem_cons_of_mem _ hi)) (by grind)
    rw [gF, gF_lin, lsm, gT]
    have key : tk c k l * (x - v k) ≤ (if v k < x then c k * (x - v k) else 0) := by
      split
      · rename_i hlt
        exact Rat.mul_le_mul_of_nonneg_right t1 (by grind)
      · rename_i hlt
        have : 0 ≤ tk c k l * (v k - x) := Rat.mul_nonneg t0 (by grind)
        grind
    grind
/-- and equal at one of the values -/
theorem gF_at {c v : Nat → Rat} : ∀ (L : List Nat) (l : Rat), L.Pairwise (ltp v) → (∀ i ∈ L, 0 ≤ c i) → 0 ≤ l → l ≤ lsm L c → L ≠ [] →
    ∃ k ∈ L, v k * l - lsm L (fun i => if v i < v k then c i * (v k - v i) else 0) = gF c v L l 0
  | [], _, _, _, _, _, h => absurd rfl h
  | k :: L, l, hs, hc, h, h2, _ => by
    have hk := hc k List.mem_cons_self
    rw [List.pairwise_cons] at hs
    have hge : ∀ i ∈ L, v k ≤ v i := fun i hi => by
      have := hs.1 i hi
      unfold ltp at this; grind
    by_cases e : c k < l
    · have et : tk c k l = c k := by unfold tk; rw [if_pos e]
      have hne : L ≠ [] := by
        rintro rfl
        unfold lsm lsm at h2
        grind
      obtain ⟨j, hj, hjq⟩ := gF_at (v := v) L (l - c k) hs.2 (fun i hi => hc i (List.mem_cons_of_mem _ hi)) (by grind) (by unfold lsm at h2; grind) hne
      refine ⟨j, List.mem_cons_of_mem _ hj, ?_⟩
      rw [gF, gF_lin, et, ← hjq, lsm]
      have := hge j hj
      by_cases z : v k < v j
      · rw [if_pos z]; grind
      · rw [if_neg z]
        have : v k = v j := by grind
        grind
    · have et : tk c k l = l := by unfold tk; rw [if_neg e]
      refine ⟨k, List.mem_cons_self, ?_⟩
      have h0 : lsm (k :: L) (fun i => if v i < v k then c i * (v k - v i) else 0) = 0 := by
        have : lsm (k :: L) (fun i => if v i < v k then c i * (v k - v i) else 0) = lsm (k :: L) fun _ => 0 := by
          refine lsm_congr _ fun i hi => ?_
          rw [if_neg]
          rcases List.mem_cons.mp hi with rfl | hi
          · exact Rat.lt_irrefl
          · have := hge i hi; grind
        rw [this]
        have : ∀ M : List Nat, lsm M (fun _ => 0) = 0 := by
          intro M
          induction M with
          | nil => rfl
          | cons a M ih => rw [lsm, ih]; exact Rat.add_zero 0
        exact this _
      rw [h0, gF, gF_lin, et, Rat.sub_self]
      have hz : ∀ (M : List Nat), (∀ i ∈ M, 0 ≤ c i) → gF c v M 0 0 = 0 := by
        intro M
        induction M with
        | nil => intro _; rfl
        | cons a M ih =>
          intro hM
          have ha := hM a List.mem_cons_self
          have et : tk c a 0 = 0 := by unfold tk; rw [if_neg (by grind)]
          rw [gF, et, Rat.sub_self]
          have : (0 : Rat) + 0 * v a = 0 := by grind
          rw [this]
          exact ih fun i hi => hM i (List.mem_cons_of_mem _ hi)
      rw [hz L fun i hi => hc i (List.mem_cons_of_mem _ hi)]
      grind
/-- the law's value at one x -/
def thr (c v : Nat → Rat) (s : Rat) (n : Nat) (x : Rat) : Rat := x - shortF c v n x / s
/-- the worst share -/
def wsh (c v : Nat → Rat) (s : Rat) (n : Nat) : Rat := gF c v (places v n) s 0 / s
theorem wsh_ge {c v : Nat → Rat} {s : Rat} {n : Nat} (hc : ∀ i, i < n → 0 ≤ c i) (h0 : 0 < s) (h1 : s ≤ sm n c) (x : Rat) : thr c v s n x ≤ wsh c v s n := by
  have hc' : ∀ i ∈ places v n, 0 ≤ c i := fun i hi => hc i (((places_srt v n).2 i).mp hi)
  have := gF_ge (v := v) x (places v n) s hc' (by grind)
  rw [gT_all _ _ hc' (by grind) (by rw [lsm_places]; exact h1), lsm_places] at this
  unfold thr wsh shortF
  have hs : s * s⁻¹ = 1 := Rat.mul_inv_cancel _ (by grind)
  have h4 := Rat.mul_le_mul_of_nonneg_right this (c := s⁻¹) (by have := Rat.inv_pos.mpr h0; grind)
  simp only [Rat.div_def]
  have h5 : (x * s - sm n fun i => if v i < x then c i * (x - v i) else 0) * s⁻¹ = x - (sm n fun i => if v i < x then c i * (x - v i) else 0) * s⁻¹ := by grind
  rw [← h5]; exact h4
theorem wsh_at {c v : Nat → Rat} {s : Rat} {n : Nat} (hn : 0 < n) (hc : ∀ i, i < n → 0 ≤ c i) (h0 : 0 < s) (h1 : s ≤ sm n c) : ∃ k, k < n ∧ thr c v s n (v k) = wsh c v s n := by
  have hc' : ∀ i ∈ places v n, 0 ≤ c i := fun i hi => hc i (((places_srt v n).2 i).mp hi)
  obtain ⟨k, hk, e⟩ := gF_at (v := v) (places v n) s (places_srt v n).1 hc' (by grind) (by rw [lsm_places]; exact h1) (fun z => by have := places_len v n; rw [z] at this; simp at this; omega)
  refine ⟨k, ((places_srt v n).2 k).mp hk, ?_⟩
  rw [lsm_places] at e
  unfold thr wsh shortF
  rw [← e]
  have e : v k = v k * s / s := by rw [Rat.div_def, Rat.mul_assoc, Rat.mul_inv_cancel _ (by grind), Rat.mul_one]
  simp only [Rat.div_def] at e ⊢
  grind
end DL
set_option Elab.async false
set_option linter.all false
set_option autoImplicit false
set_option maxRecDepth 100000
namespace DL
open PySem PySem.Spec
open PyProof.Rows hiding St
open L2
local macro_rules | `(tactic| lcg_off) => `(tactic| simp only [mVar, mC, mNil, mCons, mTup, mTupF, mLst, mFz, mOp, oI0, oI, oEq, oNe, oIsN, oNotN, oIsB, oIsNotB, oCatT, oCatL, oRepT, mRepL, mIx, mSq, mOwn, mTst, mAnd, mOr, mNot, mAndV, mOrV, mNotV, mIf, mNeg, mCall, mCB, cAbs, cInt, mLen, mTupO, mLstO, mLrg1, mSum, mAny, mAll, mIndex, mNoP, mPart, mSlT, mSlL, mIsi, mDGet, mDisp, mPairs, mWeak, mSeqI, mRange1, mRange2, mYes, gNm, gTupD, gConsD, gNilD, mLc, mNext, mSeq, mBreak, mCont, mAsg, mSet, mSetOw, mPar, mPar3, mParO, mParO1, mParOO, mDrop, mRet, mRetN, mIfS, mGive, mApp, mSetIx, mIns, mRem, isOw, onOw, mEqQ, mNeQ, mNewT, mPutT, onDt, mGetT, mFor, startD, List.map_cons, List.map_nil, List.length_cons, List.length_nil, List.cons_append, List.nil_append, List.getElem?_cons_zero, List.getElem?_cons_succ, List.set_cons_zero, List.set_cons_succ, List.replicate_succ, List.replicate_zero, Nat.reduceAdd, Nat.reduceSub, Nat.zero_add, Nat.sub_self, decide_eq_true_eq, Bool.not_eq_true, Bool.not_eq_eq_eq_not, if_true, if_false, ite_true, ite_false, Bool.false_eq_true, noOw, wipeD, List.all_cons, List.all_nil, Bool.and_true, true_and, and_true, D.isNon, Bool.not_true, Bool.not_false])
/-! ## the weights -/
theorem gW_out (c : Nat → Rat) (s : Rat) {i : Nat} : ∀ (L : List Nat) (l : Rat) (w : Nat → Rat), i ∉ L → gW c s L l w i = w i
  | [], l, w, _ => rfl
  | k :: L, l, w, h => by
    rw [gW, gW_out c s L _ _ fun z => h (List.mem_cons_of_mem _ z)]
    unfold upf
    rw [if_neg (fun z : i = k => h (by rw [z]; exact List.mem_cons_self))]
theorem gW_in (c : Nat → Rat) (s : Rat) {i : Nat} : ∀ (L : List Nat) (l : Rat) (w u : Nat → Rat), i ∈ L → gW c s L l w i = gW c s L l u i
  | [], l, w, u, h => by cases h
  | k :: L, l, w, u, h => by
    rw [gW, gW]
    by_cases e : i ∈ L
    · exact gW_in c s L _ _ _ e
    · rw [gW_out _ _ _ _ _ e, gW_out _ _ _ _ _ e]
      unfold upf
      rcases List.mem_cons.mp h with z | z
      · rw [if_pos z, if_pos z]
      · exact absurd z e
theorem gW_sum (c : Nat → Rat) (s : Rat) (f : Nat → Rat) : ∀ (L : List Nat) (l : Rat) (w : Nat → Rat), L.Nodup → lsm L (fun i => gW c s L l w i * f i) = gF c f L l 0 / s
  | [], l, w, _ => by simp only [lsm, gF, Rat.div_def]; grind
  | k :: L, l, w, h => by
    rw [List.nodup_cons] at h
    rw [lsm, gF, gF_lin, gW]
    have ih := gW_sum c s f L (l - tk c k l) (upf w k (tk c k l / s)) h.2
    rw [ih, gW_out _ _ _ _ _ h.1]
    unfold upf
    simp only [if_true, Rat.div_def]
    grind
theorem gF_one (c : Nat → Rat) : ∀ (L : List Nat) (l : Rat), gF c (fun _ => 1) L l 0 = gT c L l
  | [], l => rfl
  | k :: L, l => by rw [gF, gF_lin, gT, gF_one c L]; grind
theorem srt_nodup {v : Nat → Rat} {L : List Nat} (h : L.Pairwise (ltp v)) : L.Nodup :=
  List.Pairwise.imp (fun {a b} (z : ltp v a b) (e : a = b) => ltp_irrefl (v := v) (i := b) (by rw [e] at z; exact z)) h
theorem gW_bnd {c : Nat → Rat} {s : Rat} (h0 : 0 < s) {i : Nat} : ∀ (L : List Nat) (l : Rat) (w : Nat → Rat), (∀ i ∈ L, 0 ≤ c i) → 0 ≤ l → i ∈ L → 0 ≤ gW c s L l w i ∧ gW c s L l w i ≤ c i / s
  | [], l, w, _, _, h => by cases h
  | k :: L, l, w, hc, hl, h => by
    have hk := hc k List.mem_cons_self
    obtain ⟨t1, t2⟩ := tk_le (c := c) (k := k) (l := l)
    have t0 := tk_nn (l := l) hk hl
    rw [gW]
    by_cases e : i ∈ L
    · exact gW_bnd h0 L _ _ (fun i hi => hc i (List.mem_cons_of_mem _ hi)) (by grind) e
    · rw [gW_out _ _ _ _ _ e]
      rcases List.mem_cons.mp h with z | z
      · subst z
        unfold upf
        rw [if_pos rfl]
        have hi : 0 ≤ s⁻¹ := by have := Rat.inv_pos.mpr h0; grind
        simp only [Rat.div_def]
        exact ⟨Rat.mul_nonneg t0 hi, Rat.mul_le_mul_of_nonneg_right t1 hi⟩
      · exact absurd z e
theorem gW_sz {c : Nat → Rat} {s : Rat} {n b B i : Nat} (hs : ∀ i, i < n → Sz b (c i)) (hsz : Sz b s) (hs0 : s ≠ 0) : ∀ (L : List Nat) (l : Rat) (w : Nat → Rat) (j : Nat), (∀ i ∈ L, i < n) → b ≤ j → Sz j l → j + L.length * (b + 1) ≤ B → i ∈ L → Sz (B + b) (gW c s L l w i)
  | [], l, w, j, _, _, _, _, h => by cases h
  | k :: L, l, w, j, hL, hbj, hl, hj, h => by
    have hk := hL k List.mem_cons_self
    have ht := tk_sz (hs k hk) hl hbj
    rw [List.length_cons, Nat.add_mul] at hj
    rw [gW]
    by_cases e : i ∈ L
    · exact gW_sz hs hsz hs0 L _ _ (j + b + 1) (fun i hi => hL i (List.mem_cons_of_mem _ hi)) (by omega) (lt_sz (hs k hk) hl) (by omega) e
    · rw [gW_out _ _ _ _ _ e]
      rcases List.mem_cons.mp h with z | z
      · subst z
        unfold upf
        rw [if_pos rfl]
        exact (ht.div hsz hs0).mono (by omega)
      · exact absurd z e
/-- the weights of the worst share -/
def wts (c v : Nat → Rat) (s : Rat) (n : Nat) : Nat → Rat := gW c s (places v n) s fun _ => 0
theorem mem_places {v : Nat → Rat} {n i : Nat} : i ∈ places v n ↔ i < n := (places_srt v n).2 i
theorem wts_dot {c v : Nat → Rat} {s : Rat} {n : Nat} : sm n (fun i => wts c v s n i * v i) = wsh c v s n := by
  rw [← lsm_places v]
  exact gW_sum c s v _ _ _ (srt_nodup (places_srt v n).1)
theorem wts_one {c v : Nat → Rat} {s : Rat} {n : Nat} (hc : ∀ i, i < n → 0 ≤ c i) (h0 : 0 < s) (h1 : s ≤ sm n c) : sm n (wts c v s n) = 1 := by
  have := gW_sum c s (fun _ => 1) (places v n) s (fun _ => 0) (srt_nodup (places_srt v n).1)
  rw [gF_one, gT_all _ _ (fun i hi => hc i (mem_places.mp hi)) (by grind) (by rw [lsm_places]; exact h1), lsm_places] at this
  have e : sm n (wts c v s n) = sm n fun i => gW c s (places v n) s (fun _ => 0) i * 1 := sm_congr fun i _ => by unfold wts; grind
  rw [e, this, Rat.div_def, Rat.mul_inv_cancel _ (by grind)]
theorem wts_bnd {c v : Nat → Rat} {s : Rat} {n : Nat} (hc : ∀ i, i < n → 0 ≤ c i) (h0 : 0 < s) {i : Nat} (h : i < n) : 0 ≤ wts c v s n i ∧ wts c v s n i ≤ c i / s :=
  gW_bnd h0 _ _ _ (fun i hi => hc i (mem_places.mp hi)) (by grind) (mem_places.mpr h)
theorem wts_sz {c v : Nat → Rat} {s : Rat} {n b B : Nat} (hs : ∀ i, i < n → Sz b (c i)) (hsz : Sz b s) (hs0 : s ≠ 0) (hB : b + n * (b + 1) ≤ B) {i : Nat} (h : i < n) : Sz (B + b) (wts c v s n i) :=
  gW_sz hs hsz hs0 _ _ _ b (fun i hi => mem_places.mp hi) (Nat.le_refl _) hsz (by rw [places_len]; exact hB) (mem_places.mpr h)
/-- the law's own way: all divided by the share first -/
theorem gW_scale {c : Nat → Rat} {s : Rat} (h0 : 0 < s) : ∀ (L : List Nat) (l : Rat) (w : Nat → Rat), gW (fun i => c i / s) 1 L (l / s) w = gW c s L l w
  | [], l, w => rfl
  | k :: L, l, w => by
    have hi : 0 < s⁻¹ := Rat.inv_pos.mpr h0
    have ht : tk (fun i => c i / s) k (l / s) = tk c k l / s := by
      show (if c k / s < l / s then c k / s else l / s) = (if c k < l then c k else l) / s
      by_cases e : c k < l
      · have e' : c k / s < l / s := by simp only [Rat.div_def]; exact Rat.mul_lt_mul_of_pos_right e hi
        rw [if_pos e, if_pos e']
      · have e' : ¬ c k / s < l / s := by
          simp only [Rat.div_def]
          exact Rat.not_lt.mpr (Rat.mul_le_mul_of_nonneg_right (Rat.not_lt.mp e) (Rat.le_of_lt hi))
        rw [if_neg e, if_neg e']
    rw [gW, gW, ht]
    have e1 : l / s - tk c k l / s = (l - tk c k l) / s := by simp only [Rat.div_def]; grind
    have e2 : tk c k l / s / 1 = tk c k l / s := by
      rw [Rat.div_def (tk c k l / s), show (1 : Rat)⁻¹ = 1 from by decide +kernel, Rat.mul_one]
    rw [e1, e2]
    exact gW_scale h0 L _ _
/-! ## accepts_weights -/
def fAcc : FS := fun ds Q => ∃ (d e : D) (n : Nat) (v c : Nat → Rat) (s told : Rat), isV d n v ∧ isV e n c ∧ n ≤ 8 ∧ ((∃ xs, ds = [d, e, encQ s, encQ told, .lst xs] ∧ Q (.bl false)) ∨ ∃ (w : Nat → Rat) (a b : Nat), ds = [d, e, encQ s, encQ told, .tup (vec n w)] ∧ (∀ i, i < n → Sz a (v i) ∧ Sz b (c i) ∧ Sz b (w i)) ∧ Sz b s ∧ Sz b told ∧ s ≠ 0 ∧ a ≤ 100 ∧ b ≤ 200 ∧
  ∀ r : Bool, (r = true ↔ sm n w = 1 ∧ (∀ i, i < n → 0 ≤ w i) ∧ (∀ i, i < n → w i ≤ c i / s) ∧ sm n (fun i => w i * v i) ≤ told) → Q (.bl r))
theorem encQ_inj {p q : Rat} (h : encQ p = encQ q) : p = q := by
  unfold encQ at h
  injection h with h
  injection h with h1 h2
  injection h2 with h2 _
  injection h1 with h1
  injection h2 with h2
  exact Rat.ext h1 (by omega)
theorem eqv_enc (p q : Rat) : D.eqv (encQ p) (encQ q) = decide (p = q) := by
  have h : D.eqv (encQ p) (encQ q) = (D.eqv (.int p.num) (.int q.num) && (D.eqv (.int p.den) (.int q.den) && true)) := rfl
  rw [h, eqv_int, eqv_int, Bool.and_true, Bool.eq_iff_iff, Bool.and_eq_true, decide_eq_true_eq, decide_eq_true_eq, decide_eq_true_eq]
  constructor
  · rintro ⟨h1, h2⟩
    exact Rat.ext h1 (by omega)
  · rintro rfl
    exact ⟨rfl, rfl⟩
theorem pl_enc (p : Rat) : D.pl 60 (encQ p) = true := rfl
def negD : D → D
  | .tup (.int a :: _) => .bl (decide (a < 0))
  | _ => .non
theorem neg_dec (q : Rat) : decide (q.num < 0) = decide (q < 0) := by
  rw [decide_eq_decide]
  have := Rat.num_nonneg (q := q)
  grind
theorem blsOf_rng (n : Nat) (p : Nat → Bool) : blsOf ((List.range n).map fun i => D.bl (p i)) = some ((List.range n).map p) := by
  have : ((List.range n).map fun i => D.bl (p i)) = ((List.range n).map p).map D.bl := by rw [List.map_map]; rfl
  rw [this, blsOf_map]
theorem any_rng (n : Nat) (p : Nat → Bool) : ((List.range n).map p).any id = true ↔ ∃ i, i < n ∧ p i = true := by
  rw [List.any_eq_true]
  simp
theorem sz_sm {n m : Nat} {f : Nat → Rat} (h : ∀ i, i < n → Sz m (f i)) : Sz (1 + n * (m + 1)) (sm n f) := by
  have := sz_sum ((List.range n).map f) 0 1 (fun q hq => by
    obtain ⟨i, hi, rfl⟩ := List.mem_map.mp hq
    exact h i (List.mem_range.mp hi)) sz01
  rw [List.length_map, List.length_range] at this
  rw [← sumQ_range]; exact this
theorem p_accepts_weights : ∀ ds Q, fAcc ds Q → b_accepts_weights fAreParts fTotal fLess fOver fDot { nx := fun _ => Q .non, rt := Q } (startD N_accepts_weights ds) := by
  rintro ds Q ⟨d, e, n, v, c, s, told, hd, he, hn, ⟨xs, rfl, hQ⟩ | ⟨w, a, b, rfl, hs, hsz, htz, hs0, ha, hb, hQ⟩⟩
  · unfold b_accepts_weights
    rcases hd with rfl | rfl
    all_goals
      lcg_off
      exact ⟨_, .inl ⟨xs, rfl, by simp only [if_true]; exact hQ⟩⟩
  · have main1 : ∀ (E0 E1 E2 E3 E4 E5 E6 : EV) (K : Bool → Prop), (∀ r : Bool, (r = true ↔ ∃ i, i < n ∧ w i < 0) → K r) → compD [E0, E1, E2, E3, E4, E5, E6] (gNm 5) mYes (mOp (oI0 fun i j => D.bl (decide (i < j))) (mIx (mSq (mVar 5)) (mC (D.int 0))) (mC (D.int 0))) (vec n w) [] fun ds => match blsOf ds with | some ns => K (ns.any id) | none => False := by
      intro E0 E1 E2 E3 E4 E5 E6 K hK
      refine compD_map negD _ _ _ (fun x hx k hk => ?_) ?_
      · obtain ⟨i, hi, rfl⟩ := List.mem_map.mp hx
        unfold encQ
        lcg_off
        rw [atD0]
        exact hk
      · have e : (vec n w).map negD = (List.range n).map fun i => D.bl (decide (w i < 0)) := by
          unfold vec
          rw [List.map_map]
          refine List.map_congr_left fun i _ => ?_
          show D.bl (decide ((w i).num < 0)) = _
          rw [neg_dec]
        rw [List.nil_append, e, blsOf_rng]
        refine hK _ ?_
        rw [any_rng]
        simp only [decide_eq_true_eq]
    have main2 : ∀ (E0 E3 E5 E6 : EV) (K : Bool → Prop), (∀ r : Bool, (r = true ↔ ∃ i, i < n ∧ c i / s < w i) → K r) → compD [E0, .fz e, .fz (encQ s), E3, .fz (.tup (vec n w)), E5, E6] (gNm 6) mYes (mCall fLess (mCons (mCall fOver (mCons (mIx (mSq (mVar 1)) (mVar 6)) (mCons (mVar 2) mNil))) (mCons (mIx (mSq (mVar 4)) (mVar 6)) mNil))) (ixs n) [] fun ds => match blsOf ds with | some ns => K (ns.any id) | none => False := by
      intro E0 E3 E5 E6 K hK
      refine compD_map (fun x => D.bl (decide (c (nOf x) / s < w (nOf x)))) _ _ _ (fun x hx k hk => ?_) ?_
      · obtain ⟨i, hi, rfl⟩ := mem_ixs hx
        rw [nOf_int] at hk
        obtain ⟨h1, h2, h3⟩ := hs i hi
        rcases he with rfl | rfl
        all_goals
          lcg_off
          rw [atD_vec hi]
          refine ⟨_, _, b, b, rfl, hs0, h2, hsz, by omega, ?_⟩
          dsimp only
          rw [atD_vec hi]
          exact ⟨_, _, b + b, b, rfl, h2.div hsz hs0, h3, by omega, hk⟩
      · rw [List.nil_append, ixs_map n fun i => D.bl (decide (c i / s < w i)), blsOf_rng]
        refine hK _ ?_
        rw [any_rng]
        simp only [decide_eq_true_eq]
    have hz : n * (b + a + 1) ≤ 8 * 301 := Nat.mul_le_mul hn (by omega)
    have hz2 : n * (b + 1) ≤ 8 * 201 := Nat.mul_le_mul hn (by omega)
    have rest : ∀ (dd : D) (E3 E5 E6 : EV), isV dd n v → E3 = .fz (encQ told) → sm n w = 1 → compD [.fz dd, .fz e, .fz (encQ s), E3, .fz (.tup (vec n w)), E5, E6] (gNm 5) mYes (mOp (oI0 fun i j => D.bl (decide (i < j))) (mIx (mSq (mVar 5)) (mC (D.int 0))) (mC (D.int 0))) (vec n w) [] fun ds => match blsOf ds with
        | some ns => if ns.any id = true then Q (.bl false) else -1000000000 ≤ ((vec n w).length : Int) ∧ ((vec n w).length : Int) ≤ 1000000000 ∧ (List.map (fun i : Nat => D.int (i : Int)) (List.range ((vec n w).length : Int).toNat)).length ≤ 1000000 ∧
           compD [.fz dd, .fz e, .fz (encQ s), E3, .fz (.tup (vec n w)), E5, E6] (gNm 6) mYes (mCall fLess (mCons (mCall fOver (mCons (mIx (mSq (mVar 1)) (mVar 6)) (mCons (mVar 2) mNil))) (mCons (mIx (mSq (mVar 4)) (mVar 6)) mNil))) (List.map (fun i : Nat => D.int (i : Int)) (List.range ((vec n w).length : Int).toNat)) [] fun ds => match blsOf ds with
            | some ns => if ns.any id = true then Q (.bl false) else fDot [.tup (vec n w), dd] fun d => fLess [encQ told, d] fun d => match d with
              | .bl c => Q (.bl !c)
              | x => False
            | none => False
        | none => False := by
      intro dd E3 E5 E6 hdd hE3 hone
      subst hE3
      refine main1 _ _ _ _ _ _ _ (fun r => if r = true then Q (.bl false) else _) fun r hr => ?_
      by_cases h : r = true
      · rw [if_pos h]
        refine hQ false ⟨(fun z => by cases z), ?_⟩
        rintro ⟨_, h2, _, _⟩
        obtain ⟨i, hi, hi2⟩ := hr.mp h
        exact (Rat.not_lt.mpr (h2 i hi) hi2).elim
      · rw [if_neg h]
        have hnn : ∀ i, i < n → 0 ≤ w i := fun i hi => Rat.not_lt.mp fun z => h (hr.mpr ⟨i, hi, z⟩)
        rw [vec_length, Int.toNat_natCast]
        refine ⟨by omega, by omega, by rw [List.length_map, List.length_range]; omega, ?_⟩
        refine main2 _ _ _ _ (fun r => if r = true then Q (.bl false) else _) fun r2 hr2 => ?_
        by_cases h2 : r2 = true
        · rw [if_pos h2]
          refine hQ false ⟨(fun z => by cases z), ?_⟩
          rintro ⟨_, _, h2', _⟩
          obtain ⟨i, hi, hi2⟩ := hr2.mp h2
          exact (Rat.not_lt.mpr (h2' i hi) hi2).elim
        · rw [if_neg h2]
          have hle : ∀ i, i < n → w i ≤ c i / s := fun i hi => Rat.not_lt.mp fun z => h2 (hr2.mpr ⟨i, hi, z⟩)
          refine ⟨.tup (vec n w), dd, n, w, v, b, a, rfl, .inr rfl, hdd, (fun i hi => ⟨(hs i hi).2.2, (hs i hi).1⟩), by omega, ?_⟩
          refine ⟨_, _, b, 1 + n * (b + a + 1), rfl, htz, sz_sm fun i hi => (hs i hi).2.2.mul (hs i hi).1, by omega, ?_⟩
          dsimp only
          refine hQ _ ?_
          rw [Bool.not_eq_true', decide_eq_false_iff_not, Rat.not_lt]
          exact ⟨fun z => ⟨hone, hnn, hle, z⟩, fun z => z.2.2.2⟩
    unfold b_accepts_weights
    have hd' := hd
    rcases hd with rfl | rfl
    all_goals
      lcg_off
      refine ⟨(n : Int), .inr ⟨(List.range n).map w, by rw [vec_length, ← vec_encL], by rw [List.length_map, List.length_range]; omega, ?_⟩⟩
      have e1 : decide ((((List.range n).map w).length : Int) = (n : Int)) = true := by
        rw [List.length_map, List.length_range]; exact decide_eq_true rfl
      rw [e1]
      simp only [Bool.true_eq_false, if_false]
      refine ⟨.tup (vec n w), (List.range n).map w, b, rfl, .inr (by rw [vec_encL]), (fun q hq => ?_), by rw [List.length_map, List.length_range]; omega, ?_⟩
      · obtain ⟨i, hi, rfl⟩ := List.mem_map.mp hq
        exact (hs i (List.mem_range.mp hi)).2.2
      · dsimp only
        rw [sumQ_range, enc11, eqv_enc]
        refine ⟨rfl, rfl, ?_⟩
        by_cases h : sm n w = 1
        · rw [decide_eq_true h]
          simp only [Bool.true_eq_false, if_false]
          exact ⟨by rw [vec_length]; omega, rest _ _ _ _ hd' rfl h⟩
        · rw [decide_eq_false h]
          simp only [if_true]
          exact hQ false ⟨fun z => (by cases z), fun z => absurd z.1 h⟩
end DL
set_option Elab.async false
set_option linter.all false
set_option autoImplicit false
set_option maxRecDepth 100000
namespace DL
open PySem PySem.Spec
open PyProof.Rows hiding St
open L2
local macro_rules | `(tactic| lcg_off) => `(tactic| simp only [mVar, mC, mNil, mCons, mTup, mTupF, mLst, mFz, mOp, oI0, oI, oEq, oNe, oIsN, oNotN, oIsB, oIsNotB, oCatT, oCatL, oRepT, mRepL, mIx, mSq, mOwn, mTst, mAnd, mOr, mNot, mAndV, mOrV, mNotV, mIf, mNeg, mCall, mCB, cAbs, cInt, mLen, mTupO, mLstO, mLrg1, mSum, mAny, mAll, mIndex, mNoP, mPart, mSlT, mSlL, mIsi, mDGet, mDisp, mPairs, mWeak, mSeqI, mRange1, mRange2, mYes, gNm, gTupD, gConsD, gNilD, mLc, mNext, mSeq, mBreak, mCont, mAsg, mSet, mSetOw, mPar, mPar3, mParO, mParO1, mParOO, mDrop, mRet, mRetN, mIfS, mGive, mApp, mSetIx, mIns, mRem, isOw, onOw, mEqQ, mNeQ, mNewT, mPutT, onDt, mGetT, mFor, startD, List.map_cons, List.map_nil, List.length_cons, List.length_nil, List.cons_append, List.nil_append, List.getElem?_cons_zero, List.getElem?_cons_succ, List.set_cons_zero, List.set_cons_succ, List.replicate_succ, List.replicate_zero, Nat.reduceAdd, Nat.reduceSub, Nat.zero_add, Nat.sub_self, decide_eq_true_eq, Bool.not_eq_true, Bool.not_eq_eq_eq_not, if_true, if_false, ite_true, ite_false, Bool.false_eq_true, noOw, wipeD, List.all_cons, List.all_nil, Bool.and_true, true_and, and_true, D.isNon, Bool.not_true, Bool.not_false])
/-! ## the law's threshold -/
theorem vec_succ (k : Nat) (f : Nat → Rat) : vec (k + 1) f = vec k f ++ [encQ (f k)] := by
  unfold vec
  rw [List.range_succ, List.map_append]; rfl
def thrIn : SD := (mIfS (mTst (mCall fLess (mCons (mIx (mSq (mVar 0)) (mVar 6)) (mCons (mVar 4) mNil)))) (mSet 5 (mCall (fBinL (· + ·)) (mCons (mVar 5) (mCons (mCall (fBinL (· * ·)) (mCons (mIx (mSq (mVar 1)) (mVar 6)) (mCons (mCall (fBinL (· - ·)) (mCons (mVar 4) (mCons (mIx (mSq (mVar 0)) (mVar 6)) mNil))) mNil))) mNil)))) mNext)
theorem thr_in {al : List D} {De : EndsD} {d e : D} {E2 E3 : EV} {n a b : Nat} {v c : Nat → Rat} {x : Rat} (hd : isV d n v) (he : isV e n c) (hs : ∀ i, i < n → Sz a (v i) ∧ Sz b (c i)) (hx : Sz a x) (hz : 1 + n * (b + (a + a + 1) + 1) ≤ 2990) :
    ∀ (r k : Nat) (e6 : EV), k + r = n → Sz (1 + k * (b + (a + a + 1) + 1)) (shortF c v k x) → (∀ e6, De.nx [.fz d, .fz e, E2, E3, .fz (encQ x), .fz (encQ (shortF c v n x)), e6]) →
    forD none al (gNm 6) thrIn De ((List.range' k r).map fun i => D.int ((i : Nat) : Int)) [.fz d, .fz e, E2, E3, .fz (encQ x), .fz (encQ (shortF c v k x)), e6]
  | 0, k, e6, hk, _, hQ => by
    have : k = n := by omega
    subst this
    exact ⟨trivial, hQ _⟩
  | r + 1, k, e6, hk, hsz, hQ => by
    have hk' : k < n := by omega
    obtain ⟨h1, h2⟩ := hs k hk'
    have hkn : (k + 1) * (b + (a + a + 1) + 1) ≤ n * (b + (a + a + 1) + 1) := Nat.mul_le_mul_right _ hk'
    rw [Nat.succ_mul] at hkn
    have hst : shortF c v (k + 1) x = shortF c v k x + if v k < x then c k * (x - v k) else 0 := rfl
    rw [List.range'_succ, List.map_cons]
    refine ⟨trivial, ?_⟩
    have hsz' : Sz (1 + (k + 1) * (b + (a + a + 1) + 1)) (shortF c v (k + 1) x) := by
      rw [hst, Nat.succ_mul]
      split
      · exact (hsz.add (h2.mul (hx.sub h1))).mono (by omega)
      · rw [Rat.add_zero]; exact hsz.mono (by omega)
    have ih := fun e6 => thr_in (al := al) (E2 := E2) (E3 := E3) hd he hs hx hz r (k + 1) e6 (by omega) hsz' hQ
    rw [hst] at ih
    have ha : a + a ≤ 8000 := by omega
    unfold thrIn
    rcases hd with rfl | rfl <;> rcases he with rfl | rfl
    all_goals
      lcg_off
      rw [atD_vec hk']
      refine ⟨_, _, a, a, rfl, h1, hx, ha, ?_⟩
      by_cases z : v k < x
      · simp only [z, decide_true, if_true] at ih ⊢
        rw [atD_vec hk', atD_vec hk']
        refine ⟨_, _, a, a, rfl, hx, h1, by omega, ?_⟩
        refine ⟨_, _, b, a + a + 1, rfl, h2, hx.sub h1, by omega, ?_⟩
        refine ⟨_, _, 1 + k * (b + (a + a + 1) + 1), b + (a + a + 1), rfl, hsz, h2.mul (hx.sub h1), by omega, ?_⟩
        exact ih _
      · simp only [z, decide_false, if_false, Bool.false_eq_true, Rat.add_zero] at ih ⊢
        exact ih _
def thrOut : SD := (mSeq (mSet 5 (mTup (mCons (mC (.int 0)) (mCons (mC (.int 1)) mNil)))) (mSeq (mFor (mRange1 (mCons (mLen (mSq (mVar 0))) mNil)) (gNm 6) thrIn) (mApp 3 (mCall (fBinL (· - ·)) (mCons (mVar 4) (mCons (mCall fOverL (mCons (mVar 5) (mCons (mVar 2) mNil))) mNil))))))
theorem thr_out {al : List D} {De : EndsD} {d e : D} {p : Addr} {n a b bs M : Nat} {v c : Nat → Rat} {s : Rat} (hd : isV d n v) (he : isV e n c) (hs : ∀ i, i < n → Sz a (v i) ∧ Sz b (c i)) (hsz : Sz bs s) (hs0 : s ≠ 0) (hn : n ≤ 1000) (hM : 1 + n * (b + (a + a + 1) + 1) = M) (hz : M + a + bs ≤ 2990) :
    ∀ (r k : Nat) (e4 e5 e6 : EV), k + r = n → (∀ e4 e5 e6, De.nx [.fz d, .fz e, .fz (encQ s), .ow p (.lst (vec n fun i => thr c v s n (v i))), e4, e5, e6]) →
    forD none al (gNm 4) thrOut De ((List.range' k r).map fun i => encQ (v i)) [.fz d, .fz e, .fz (encQ s), .ow p (.lst (vec k fun i => thr c v s n (v i))), e4, e5, e6]
  | 0, k, e4, e5, e6, hk, hQ => by
    have : k = n := by omega
    subst this
    exact ⟨trivial, hQ _ _ _⟩
  | r + 1, k, e4, e5, e6, hk, hQ => by
    have hk' : k < n := by omega
    obtain ⟨h1, h2⟩ := hs k hk'
    rw [List.range'_succ, List.map_cons]
    refine ⟨trivial, ?_⟩
    have ih := fun e4 e5 e6 => thr_out (al := al) (p := p) hd he hs hsz hs0 hn hM hz r (k + 1) e4 e5 e6 (by omega) hQ
    have hsh : Sz M (shortF c v n (v k)) := by
      rw [← hM]
      refine sz_sm fun i hi => ?_
      split
      · exact (hs i hi).2.mul (h1.sub (hs i hi).1)
      · exact sz01.mono (by omega)
    have inn := fun (De' : EndsD) hQ' => thr_in (al := ixs n) (De := De') (E2 := .fz (encQ s)) (E3 := .ow p (.lst (vec k fun i => thr c v s n (v i)))) hd he hs h1 (by omega) n 0 e6 (by omega) (sz01.mono (by omega)) hQ'
    rw [← List.range_eq_range'] at inn
    unfold thrOut
    rcases hd with rfl | rfl
    all_goals
      lcg_off
      rw [vec_length, Int.toNat_natCast]
      rw [enc01]
      refine ⟨by omega, by omega, by omega, inn _ fun e6 => ?_⟩
      lcg_off
      refine ⟨_, _, M, bs, rfl, hs0, hsh, hsz, by omega, ?_⟩
      refine ⟨_, _, a, M + bs, rfl, h1, hsh.div hsz hs0, by omega, ?_⟩
      refine ⟨by rw [vec_length]; omega, ?_⟩
      have := ih (.fz (encQ (v k))) (.fz (encQ (shortF c v n (v k)))) e6
      rw [vec_succ] at this
      exact this
def fThr : FS := fun ds Q => ∃ (d e : D) (n : Nat) (v c : Nat → Rat) (s : Rat) (a b bs M : Nat), ds = [d, e, encQ s] ∧ isV d n v ∧ isV e n c ∧ (∀ i, i < n → Sz a (v i) ∧ Sz b (c i)) ∧ Sz bs s ∧ 0 < s ∧ s ≤ sm n c ∧ (∀ i, i < n → 0 ≤ c i) ∧ 0 < n ∧ n ≤ 1000 ∧ 1 + n * (b + (a + a + 1) + 1) = M ∧ M + a + bs ≤ 2990 ∧ Q (encQ (wsh c v s n))
theorem thr_sz {c v : Nat → Rat} {s : Rat} {n a b bs M : Nat} (hs : ∀ i, i < n → Sz a (v i) ∧ Sz b (c i)) (hsz : Sz bs s) (hs0 : s ≠ 0) (hM : 1 + n * (b + (a + a + 1) + 1) = M) {k : Nat} (hk : k < n) : Sz (a + (M + bs) + 1) (thr c v s n (v k)) := by
  have h1 := (hs k hk).1
  have hsh : Sz M (shortF c v n (v k)) := by
    rw [← hM]
    refine sz_sm fun i hi => ?_
    split
    · exact (hs i hi).2.mul (h1.sub (hs i hi).1)
    · exact sz01.mono (by omega)
  exact h1.sub (hsh.div hsz hs0)
theorem wsh_sz {c v : Nat → Rat} {s : Rat} {n a b bs M : Nat} (hs : ∀ i, i < n → Sz a (v i) ∧ Sz b (c i)) (hsz : Sz bs s) (hs0 : 0 < s) (hn : 0 < n) (hc : ∀ i, i < n → 0 ≤ c i) (h1 : s ≤ sm n c) (hM : 1 + n * (b + (a + a + 1) + 1) = M) : Sz (a + (M + bs) + 1) (wsh c v s n) := by
  obtain ⟨k, hk, e⟩ := wsh_at (v := v) hn hc hs0 h1
  rw [← e]
  exact thr_sz hs hsz (by grind) hM hk
theorem p__law_threshold : ∀ ds Q, fThr ds Q → b__law_threshold fLess (fBinL (· + ·)) (fBinL (· * ·)) (fBinL (· - ·)) fOverL fMost { nx := fun _ => Q .non, rt := Q } (startD N__law_threshold ds) := by
  rintro ds Q ⟨d, e, n, v, c, s, a, b, bs, M, rfl, hd, he, hs, hsz, hs0, hs1, hc, hn0, hn, hM, hz, hQ⟩
  have fin : ∀ p, forD none (vec n v) (gNm 4) thrOut { nx := mGive 3 (mRet (mCall fMost (mCons (mVar 3) mNil))) { nx := fun x => Q .non, rt := Q }, rt := Q } (vec n v) [.fz d, .fz e, .fz (encQ s), .ow p (.lst []), .un, .un, .un] := by
    intro p
    have := thr_out (al := vec n v) (p := p) (De := { nx := mGive 3 (mRet (mCall fMost (mCons (mVar 3) mNil))) { nx := fun x => Q .non, rt := Q }, rt := Q }) hd he hs hsz (by grind) hn hM hz n 0 .un .un .un (by omega) fun e4 e5 e6 => ?_
    · rw [← List.range_eq_range'] at this
      exact this
    · lcg_off
      obtain ⟨m, rfl⟩ : ∃ m, n = m + 1 := ⟨n - 1, by omega⟩
      have hl : (List.range (m + 1)).map (fun i => thr c v s (m + 1) (v i)) = thr c v s (m + 1) (v 0) :: ((List.range m).map fun i => thr c v s (m + 1) (v (i + 1))) := by
        rw [List.range_succ_eq_map, List.map_cons, List.map_map]; rfl
      refine ⟨.lst _, thr c v s (m + 1) (v 0), (List.range m).map (fun i => thr c v s (m + 1) (v (i + 1))), a + (M + bs) + 1, rfl, .inl (by rw [vec_encL, hl]), ?_, by omega, ?_⟩
      · rw [← hl]
        intro x hx
        obtain ⟨i, hi, rfl⟩ := List.mem_map.mp hx
        exact thr_sz hs hsz (by grind) hM (List.mem_range.mp hi)
      · rw [mostF_eq (r := wsh c v s (m + 1))]
        · exact hQ
        · rw [← hl]
          obtain ⟨k, hk, e⟩ := wsh_at (v := v) hn0 hc hs0 hs1
          rw [← e]
          exact List.mem_map.mpr ⟨k, List.mem_range.mpr hk, rfl⟩
        · rw [← hl]
          intro x hx
          obtain ⟨i, hi, rfl⟩ := List.mem_map.mp hx
          exact wsh_ge hc hs0 hs1 _
  unfold b__law_threshold
  rcases hd with rfl | rfl
  all_goals
    lcg_off
    exact ⟨by decide, fun p => fin p⟩
end DL
set_option Elab.async false
set_option linter.all false
set_option autoImplicit false
set_option maxRecDepth 100000
namespace DL
open PySem PySem.Spec
open PyProof.Rows hiding St
open L2
local macro_rules | `(tactic| lcg_off) => `(tactic| simp only [mVar, mC, mNil, mCons, mTup, mTupF, mLst, mFz, mOp, oI0, oI, oEq, oNe, oIsN, oNotN, oIsB, oIsNotB, oCatT, oCatL, oRepT, mRepL, mIx, mSq, mOwn, mTst, mAnd, mOr, mNot, mAndV, mOrV, mNotV, mIf, mNeg, mCall, mCB, cAbs, cInt, mLen, mTupO, mLstO, mLrg1, mSum, mAny, mAll, mIndex, mNoP, mPart, mSlT, mSlL, mIsi, mDGet, mDisp, mPairs, mWeak, mSeqI, mRange1, mRange2, mYes, gNm, gTupD, gConsD, gNilD, mLc, mNext, mSeq, mBreak, mCont, mAsg, mSet, mSetOw, mPar, mPar3, mParO, mParO1, mParOO, mDrop, mRet, mRetN, mIfS, mGive, mApp, mSetIx, mIns, mRem, isOw, onOw, mEqQ, mNeQ, mNewT, mPutT, onDt, mGetT, mFor, startD, List.map_cons, List.map_nil, List.length_cons, List.length_nil, List.cons_append, List.nil_append, List.getElem?_cons_zero, List.getElem?_cons_succ, List.set_cons_zero, List.set_cons_succ, List.replicate_succ, List.replicate_zero, Nat.reduceAdd, Nat.reduceSub, Nat.zero_add, Nat.sub_self, decide_eq_true_eq, Bool.not_eq_true, Bool.not_eq_eq_eq_not, if_true, if_false, ite_true, ite_false, Bool.false_eq_true, noOw, wipeD, List.all_cons, List.all_nil, Bool.and_true, true_and, and_true, D.isNon, Bool.not_true, Bool.not_false])
/-! ## parts, shares, prices -/
def fParts : FS := fun ds Q => ∃ n : Nat, ds = [.tok, .int (n : Int)] ∧ 1 ≤ n ∧ n ≤ 8 ∧ ∀ c : Nat → Rat, (∀ i, i < n → Sz 6 (c i) ∧ 0 < c i) → sm n c = 1 → (∀ i, i < n → 1 / 1000 < c i) → Q (.tup (vec n c))
theorem All2_get {R : D → D → Prop} : ∀ {xs ys : List D}, All2 R xs ys → xs.length = ys.length
  | _, _, .nil => rfl
  | _, _, .cons _ h => congrArg (· + 1) (All2_get h)
theorem rng_getD (qs : List Rat) : (List.range qs.length).map (fun i => qs.getD i 0) = qs := by
  apply List.ext_getElem?
  intro i
  rw [List.getElem?_map]
  by_cases h : i < qs.length
  · rw [List.getElem?_range h, List.getElem?_eq_getElem h, Option.map_some, List.getD_eq_getElem?_getD, List.getElem?_eq_getElem h]; rfl
  · rw [List.getElem?_eq_none (by simpa using h), List.getElem?_eq_none (by omega)]; rfl
theorem encL_vec (qs : List Rat) : encL qs = vec qs.length fun i => qs.getD i 0 := by rw [vec_encL, rng_getD]
theorem sm_getD (qs : List Rat) : sm qs.length (fun i => qs.getD i 0) = sumQ qs := by rw [← sumQ_range, rng_getD]
theorem getD_all {P : Rat → Prop} {qs : List Rat} (h : ∀ q ∈ qs, P q) (i : Nat) (hi : i < qs.length) : P (qs.getD i 0) := by
  rw [List.getD_eq_getElem?_getD, List.getElem?_eq_getElem hi]
  exact h _ (List.getElem_mem hi)
theorem sum_div (S : Rat) : ∀ (ms : List Int) (acc : Rat), (ms.map fun m : Int => (m : Rat) / S).foldl (· + ·) acc = acc + (ms.sum : Rat) / S
  | [], acc => by
    show acc = acc + ((0 : Int) : Rat) / S
    rw [Rat.div_def, Rat.intCast_zero, Rat.zero_mul, Rat.add_zero]
  | m :: ms, acc => by
    rw [List.map_cons, List.foldl_cons, sum_div S ms, List.sum_cons, Rat.intCast_add]
    simp only [Rat.div_def]
    grind
theorem ints_of_rel {R : D → D → Prop} {P : Int → Prop} (hR : ∀ x y, R x y → ∃ m : Int, y = .int m ∧ P m) : ∀ {xs ys : List D}, All2 R xs ys → ∃ ms : List Int, ys = ms.map D.int ∧ ms.length = xs.length ∧ ∀ m ∈ ms, P m
  | _, _, .nil => ⟨[], rfl, rfl, fun m h => by cases h⟩
  | _, _, .cons h t => by
    obtain ⟨ms, rfl, h2, h3⟩ := ints_of_rel hR t
    obtain ⟨m, rfl, h4⟩ := hR _ _ h
    refine ⟨m :: ms, rfl, by rw [List.length_cons, h2]; rfl, fun x hx => ?_⟩
    rcases List.mem_cons.mp hx with rfl | hx
    · exact h4
    · exact h3 x hx
theorem sum_bnd : ∀ ms : List Int, (∀ m ∈ ms, 1 ≤ m ∧ m ≤ 4) → (ms.length : Int) ≤ ms.sum ∧ ms.sum ≤ 4 * ms.length
  | [], _ => by simp
  | m :: ms, h => by
    have h1 := sum_bnd ms fun x hx => h x (List.mem_cons_of_mem _ hx)
    have h2 := h m List.mem_cons_self
    rw [List.sum_cons, List.length_cons]
    omega
theorem p__law_share : ∀ ds Q, (fun ds Q => ds = [.tok] ∧ ∀ s : Rat, Sz 6 s → 0 < s → s ≤ 1 → Q (.tupF [.int s.num, .int s.den])) ds Q → b__law_share fTake { nx := fun _ => Q .non, rt := Q } (startD N__law_share ds) := by
  rintro ds Q ⟨rfl, hQ⟩
  unfold b__law_share
  lcg_off
  refine ⟨by decide, by decide, by decide, by decide, by decide, by decide, by decide, by decide, 7, rfl, by decide, fun r _ hr => ?_⟩
  have h := hr (by decide)
  have h1 : ∀ (a b : Int) (s : Rat), s.num = a → (s.den : Int) = b → Sz 6 s → 0 < s → s ≤ 1 → Q (.tupF [.int a, .int b]) := by
    rintro a b s rfl rfl h1 h2 h3
    exact hQ s h1 h2 h3
  have hc : r = 0 ∨ r = 1 ∨ r = 2 ∨ r = 3 ∨ r = 4 ∨ r = 5 ∨ r = 6 := by omega
  rcases hc with rfl | rfl | rfl | rfl | rfl | rfl | rfl
  · exact h1 1 1 1 rfl rfl ⟨by decide, by decide⟩ (by decide +kernel) (by decide +kernel)
  · exact h1 1 2 (1/2) (by decide +kernel) (by decide +kernel) ⟨by decide +kernel, by decide +kernel⟩ (by decide +kernel) (by decide +kernel)
  · exact h1 1 3 (1/3) (by decide +kernel) (by decide +kernel) ⟨by decide +kernel, by decide +kernel⟩ (by decide +kernel) (by decide +kernel)
  · exact h1 2 3 (2/3) (by decide +kernel) (by decide +kernel) ⟨by decide +kernel, by decide +kernel⟩ (by decide +kernel) (by decide +kernel)
  · exact h1 3 4 (3/4) (by decide +kernel) (by decide +kernel) ⟨by decide +kernel, by decide +kernel⟩ (by decide +kernel) (by decide +kernel)
  · exact h1 1 20 (1/20) (by decide +kernel) (by decide +kernel) ⟨by decide +kernel, by decide +kernel⟩ (by decide +kernel) (by decide +kernel)
  · exact h1 1 60 (1/60) (by decide +kernel) (by decide +kernel) ⟨by decide +kernel, by decide +kernel⟩ (by decide +kernel) (by decide +kernel)
theorem p__law_price : ∀ ds Q, (fun ds Q => ds = [.tok] ∧ ∀ q : Rat, Sz 4 q → Q (encQ q)) ds Q → b__law_price fFr fTake { nx := fun _ => Q .non, rt := Q } (startD N__law_price ds) := by
  rintro ds Q ⟨rfl, hQ⟩
  unfold b__law_price
  lcg_off
  refine ⟨8, rfl, by decide, fun r _ hr => ?_⟩
  refine ⟨3, rfl, by decide, fun r2 _ hr2 => ?_⟩
  have h1 := hr (by decide)
  have h2 := hr2 (by decide)
  have h3 : (2 : Nat) ^ 4 ≤ 2 ^ 2990 := pow_lt_pow2 (by decide)
  have h4 : (2 : Nat) ^ 4 = 16 := rfl
  exact ⟨1 + r, 1 + r2, rfl, by omega, by omega, hQ _ (divInt_sz (by omega) (by omega) (by omega))⟩
theorem p__law_parts_of : ∀ ds Q, fParts ds Q → b__law_parts_of fTake fFr { nx := fun _ => Q .non, rt := Q } (startD N__law_parts_of ds) := by
  rintro ds Q ⟨n, rfl, h1, h8, hQ⟩
  unfold b__law_parts_of
  lcg_off
  refine ⟨by omega, by omega, by rw [List.length_map, List.length_range]; omega, ?_⟩
  rw [Int.toNat_natCast]
  refine compD_rel (fun _ y => ∃ m : Int, y = .int m ∧ (1 ≤ m ∧ m ≤ 4)) (ixs n) [] _ (fun x hx k hk => ?_) ?_
  · lcg_off
    exact ⟨4, rfl, by decide, fun r _ hr => hk _ ⟨1 + r, rfl, by have := hr (by decide); omega⟩⟩
  · intro ds hds
    obtain ⟨ms, rfl, hl, hm⟩ := ints_of_rel (fun _ _ h => h) hds
    rw [ixs_length] at hl
    obtain ⟨b1, b2⟩ := sum_bnd ms hm
    rw [hl] at b1 b2
    refine ⟨by rw [List.nil_append, List.length_map]; omega, ?_⟩
    have h3 : (2 : Nat) ^ 6 ≤ 2 ^ 2990 := pow_lt_pow2 (by decide)
    have h4 : (2 : Nat) ^ 6 = 64 := rfl
    rw [List.nil_append]
    refine compD_map (fun x => match x with | .int m => encQ (Rat.divInt m ms.sum) | _ => .non) _ _ _ (fun x hx k hk => ?_) ?_
    · obtain ⟨m, hm', rfl⟩ := List.mem_map.mp hx
      lcg_off
      rw [intsOf_map]
      exact ⟨m, ms.sum, rfl, by omega, by omega, hk⟩
    · rw [List.nil_append, List.map_map]
      have e : (ms.map ((fun x => match x with | .int m => encQ (Rat.divInt m ms.sum) | _ => .non) ∘ D.int)) = encL (ms.map fun m => Rat.divInt m ms.sum) := by
        unfold encL; rw [List.map_map]; rfl
      rw [e, encL_vec, List.length_map, hl]
      have hS : (0 : Rat) < (ms.sum : Rat) := by
        have : (0 : Int) < ms.sum := by omega
        exact Rat.intCast_pos.mpr this
      have hlt : ms.sum ≤ 32 := by omega
      have hS2 : (ms.sum : Rat) ≤ 32 := by
        have := Rat.intCast_le_intCast.mpr hlt
        exact this
      have hinv : 0 < (ms.sum : Rat)⁻¹ := Rat.inv_pos.mpr hS
      have hmi : (ms.sum : Rat) * (ms.sum : Rat)⁻¹ = 1 := Rat.mul_inv_cancel _ (by grind)
      have hq : ∀ q ∈ (ms.map fun m => Rat.divInt m ms.sum), Sz 6 q ∧ 0 < q ∧ 1 / 1000 < q := by
        intro q hq
        obtain ⟨m, hm', rfl⟩ := List.mem_map.mp hq
        have hb := hm m hm'
        refine ⟨divInt_sz (by omega) (by omega) (by omega), ?_⟩
        rw [Rat.divInt_eq_div, Rat.div_def]
        have hm1 : (1 : Rat) ≤ (m : Rat) := by
          have := Rat.intCast_le_intCast.mpr hb.1
          exact this
        have h5 := Rat.mul_le_mul_of_nonneg_right hm1 (Rat.le_of_lt hinv)
        have h6 := Rat.mul_le_mul_of_nonneg_right hS2 (Rat.le_of_lt hinv)
        constructor <;> grind
      have hl2 : (ms.map fun m => Rat.divInt m ms.sum).length = n := by rw [List.length_map, hl]
      refine hQ _ (fun i hi => ?_) ?_ (fun i hi => ?_)
      · exact ⟨getD_all (P := Sz 6) (fun q h => (hq q h).1) i (by rw [hl2]; exact hi), getD_all (P := fun q => 0 < q) (fun q h => (hq q h).2.1) i (by rw [hl2]; exact hi)⟩
      · have := sm_getD (ms.map fun m => Rat.divInt m ms.sum)
        rw [hl2] at this
        rw [this]
        unfold sumQ
        have e2 : (ms.map fun m => Rat.divInt m ms.sum) = ms.map fun m : Int => (m : Rat) / (ms.sum : Rat) := List.map_congr_left fun m _ => Rat.divInt_eq_div _ _
        rw [e2, sum_div, Rat.zero_add, Rat.div_def, hmi]
      · exact getD_all (P := fun q => 1 / 1000 < q) (fun q h => (hq q h).2.2) i (by rw [hl2]; exact hi)
end DL
set_option Elab.async false
set_option linter.all false
set_option autoImplicit false
set_option maxRecDepth 100000
namespace DL
open PySem PySem.Spec
open PyProof.Rows hiding St
open L2
local macro_rules | `(tactic| lcg_off) => `(tactic| simp only [mVar, mC, mNil, mCons, mTup, mTupF, mLst, mFz, mOp, oI0, oI, oEq, oNe, oIsN, oNotN, oIsB, oIsNotB, oCatT, oCatL, oRepT, mRepL, mIx, mSq, mOwn, mTst, mAnd, mOr, mNot, mAndV, mOrV, mNotV, mIf, mNeg, mCall, mCB, cAbs, cInt, mLen, mTupO, mLstO, mLrg1, mSum, mAny, mAll, mIndex, mNoP, mPart, mSlT, mSlL, mIsi, mDGet, mDisp, mPairs, mWeak, mSeqI, mRange1, mRange2, mYes, gNm, gTupD, gConsD, gNilD, mLc, mNext, mSeq, mBreak, mCont, mAsg, mSet, mSetOw, mPar, mPar3, mParO, mParO1, mParOO, mDrop, mRet, mRetN, mIfS, mGive, mApp, mSetIx, mIns, mRem, isOw, onOw, mEqQ, mNeQ, mNewT, mPutT, onDt, mGetT, mFor, startD, List.map_cons, List.map_nil, List.length_cons, List.length_nil, List.cons_append, List.nil_append, List.getElem?_cons_zero, List.getElem?_cons_succ, List.set_cons_zero, List.set_cons_succ, List.replicate_succ, List.replicate_zero, Nat.reduceAdd, Nat.reduceSub, Nat.zero_add, Nat.sub_self, decide_eq_true_eq, Bool.not_eq_true, Bool.not_eq_eq_eq_not, if_true, if_false, ite_true, ite_false, Bool.false_eq_true, noOw, wipeD, List.all_cons, List.all_nil, Bool.and_true, true_and, and_true, D.isNon, Bool.not_true, Bool.not_false])
/-! ## _law_values: helpers -/
def fAddG : FS := fun ds Q => ∃ (a b c d : Int) (n m : Nat), ds = [.tup [.int a, .int b], .tup [.int c, .int d]] ∧ 0 < b ∧ 0 < d ∧ a.natAbs < 2 ^ n ∧ b.natAbs < 2 ^ n ∧ c.natAbs < 2 ^ m ∧ d.natAbs < 2 ^ m ∧ n + m ≤ 2990 ∧ Q (encQ (Rat.divInt a b + Rat.divInt c d))
theorem divInt_self (p : Rat) : Rat.divInt p.num (p.den : Int) = p := Rat.num_divInt_den p
theorem fAddG_of : ∀ ds Q, fBinL (· + ·) ds Q → fAddG ds Q := by
  rintro ds Q ⟨p, q, n, m, rfl, hp, hq, hz, hQ⟩
  refine ⟨p.num, p.den, q.num, q.den, n, m, rfl, den_pos' p, den_pos' q, hp.1, hp.dn, hq.1, hq.dn, hz, ?_⟩
  rw [divInt_self, divInt_self]; exact hQ
theorem addG_q {p q : Rat} {n m : Nat} {Q : D → Prop} (hp : Sz n p) (hq : Sz m q) (hz : n + m ≤ 2990) (hQ : Q (encQ (p + q))) : fAddG [encQ p, encQ q] Q := fAddG_of _ _ ⟨p, q, n, m, rfl, hp, hq, hz, hQ⟩
theorem p__law_addG : ∀ ds Q, fAddG ds Q → b__law_add fFr { nx := fun _ => Q .non, rt := Q } (startD N__law_add ds) := by
  rintro ds Q ⟨a, b, c, d, n, m, rfl, hb, hd, ha', hb', hc', hd', hz, hQ⟩
  unfold b__law_add
  lcg_off
  simp only [atD0, atD1]
  have z3 := nlt_mul hb' hd'
  refine ⟨mulW ha' hd' (by omega), mulW hc' hb' (by omega), mulW hb' hd' (by omega), _, _, rfl, mul_ne (by omega) (by omega), nlt_mono z3 (by omega), ?_⟩
  rw [Rat.divInt_add_divInt _ _ (by omega) (by omega)] at hQ
  exact hQ
theorem qs_of_rel {R : D → D → Prop} {P : Rat → Prop} (hR : ∀ x y, R x y → ∃ q : Rat, y = encQ q ∧ P q) : ∀ {xs ys : List D}, All2 R xs ys → ∃ qs : List Rat, ys = encL qs ∧ qs.length = xs.length ∧ ∀ q ∈ qs, P q
  | _, _, .nil => ⟨[], rfl, rfl, fun m h => by cases h⟩
  | _, _, .cons h t => by
    obtain ⟨ms, rfl, h2, h3⟩ := qs_of_rel hR t
    obtain ⟨m, rfl, h4⟩ := hR _ _ h
    refine ⟨m :: ms, rfl, by rw [List.length_cons, h2]; rfl, fun x hx => ?_⟩
    rcases List.mem_cons.mp hx with rfl | hx
    · exact h4
    · exact h3 x hx
theorem vec_of_rel {R : D → D → Prop} {P : Rat → Prop} (hR : ∀ x y, R x y → ∃ q : Rat, y = encQ q ∧ P q) {n : Nat} {xs ys : List D} (hn : xs.length = n) (h : All2 R xs ys) : ∃ v : Nat → Rat, ys = vec n v ∧ ∀ i, i < n → P (v i) := by
  obtain ⟨qs, rfl, h2, h3⟩ := qs_of_rel hR h
  refine ⟨fun i => qs.getD i 0, by rw [encL_vec, h2, hn], fun i hi => getD_all h3 i (by omega)⟩
def fParts2 : FS := fun ds Q => ∃ n : Nat, ds = [.tok, .int (n : Int)] ∧ 1 ≤ n ∧ n ≤ 8 ∧ ∀ c : Nat → Rat, (∀ i, i < n → Sz 6 (c i) ∧ 0 < c i) → sm n c = 1 → (∀ i, i < n → 1 / 1000 < c i) → Q (.tup (vec n c))
def fShare : FS := fun ds Q => ds = [.tok] ∧ ∀ s : Rat, Sz 6 s → 0 < s → s ≤ 1 → Q (.tupF [.int s.num, .int s.den])
def fPrice : FS := fun ds Q => ds = [.tok] ∧ ∀ q : Rat, Sz 4 q → Q (encQ q)
/-- the law's loop over the places -/
def lwBody : SD := (mSeq (mSetIx 9 (mVar 3) (mCall fLeast2 (mCons (mFz (mLst (mCons (mVar 8) (mCons (mCall fOverL (mCons (mIx (mSq (mVar 4)) (mVar 3)) (mCons (mWeak (mVar 5)) mNil))) mNil)))) mNil))) (mSet 8 (mCall (fBinL (· - ·)) (mCons (mVar 8) (mCons (mIx (mOwn 9) (mVar 3)) mNil)))))
theorem lw_loop {al : List D} {De : EndsD} {E0 E1 E2 E6 E7 : EV} {R : En} {e : D} {p : Addr} {n b B : Nat} {c : Nat → Rat} {s : Rat} (he : isV e n c) (hs : ∀ i, i < n → Sz b (c i)) (hsz : Sz b s) (hs0 : s ≠ 0) (hbB : B + B ≤ 2900) :
    ∀ (L : List Nat) (l : Rat) (w : Nat → Rat) (j : Nat) (e3 : EV), (∀ p c, e3 ≠ .ow p c) → (∀ i ∈ L, i < n) → b + b ≤ j → Sz j l → j + L.length * (b + b + 1) ≤ B →
    (∀ l' e3, (∀ p c, e3 ≠ .ow p c) → De.nx (E0 :: E1 :: E2 :: e3 :: .fz e :: .fz (.tupF [.int s.num, .int s.den]) :: E6 :: E7 :: .fz (encQ l') :: .ow p (.lst (vec n (gW (fun i => c i / s) 1 L l w))) :: R)) →
    forD none al (gNm 3) lwBody De (natsD L) (E0 :: E1 :: E2 :: e3 :: .fz e :: .fz (.tupF [.int s.num, .int s.den]) :: E6 :: E7 :: .fz (encQ l) :: .ow p (.lst (vec n w)) :: R)
  | [], l, w, j, e3, h3, _, _, hl, _, hQ => ⟨trivial, hQ l e3 h3⟩
  | k :: L, l, w, j, e3, h3, hL, hbj, hl, hj, hQ => by
    refine ⟨trivial, ?_⟩
    have hk := hL k List.mem_cons_self
    have hcs : Sz (b + b) (c k / s) := (hs k hk).div hsz hs0
    have ht : Sz j (tk (fun i => c i / s) k l) := tk_sz hcs hl hbj
    have hjB : j ≤ B := by omega
    rw [List.length_cons, Nat.add_mul] at hj
    have hl' : Sz (j + (b + b) + 1) (l - tk (fun i => c i / s) k l) := lt_sz hcs hl
    have e1 : tk (fun i => c i / s) k l / 1 = tk (fun i => c i / s) k l := by
      rw [Rat.div_def, show (1 : Rat)⁻¹ = 1 from by decide +kernel, Rat.mul_one]
    have body : ∀ K : En → Prop, K (E0 :: E1 :: E2 :: .fz (.int ((k : Nat) : Int)) :: .fz e :: .fz (.tupF [.int s.num, .int s.den]) :: E6 :: E7 :: .fz (encQ (l - tk (fun i => c i / s) k l)) :: .ow p (.lst (vec n (upf w k (tk (fun i => c i / s) k l)))) :: R) →
        (gNm 3) (.int ((k : Nat) : Int)) (E0 :: E1 :: E2 :: e3 :: .fz e :: .fz (.tupF [.int s.num, .int s.den]) :: E6 :: E7 :: .fz (encQ l) :: .ow p (.lst (vec n w)) :: R) fun G1 => lwBody { nx := K, rt := De.rt, bk := De.nx, ct := K } G1 := by
      intro K hK
      unfold lwBody
      rcases he with rfl | rfl
      all_goals
        lcg_off
        rw [atD_vec hk]
        refine ⟨_, _, b, b, rfl, hs0, hs k hk, hsz, by omega, ?_⟩
        refine ⟨by decide, _, _, j, b + b, rfl, hl, hcs, by omega, ?_⟩
        dsimp only
        rw [vec_length, ixN_nat hk]
        dsimp only
        rw [vec_set w _ hk]
        rw [atD_vec hk]
        have e2 : upf w k (if c k / s < l then c k / s else l) k = tk (fun i => c i / s) k l := by
          unfold upf; rw [if_pos rfl]; rfl
        rw [e2]
        refine ⟨_, _, j, j, rfl, hl, ht, by omega, ?_⟩
        exact hK
    refine body _ ?_
    refine lw_loop he hs hsz hs0 hbB L _ _ (j + (b + b) + 1) _ (fun p c z => by cases z) (fun i hi => hL i (List.mem_cons_of_mem _ hi)) (by omega) hl' (by omega) ?_
    intro l' e3 h3
    have := hQ l' e3 h3
    rw [gW, e1] at this
    exact this
theorem sm_upf {n k : Nat} (w : Nat → Rat) (x : Rat) (h : k < n) : sm n (upf w k x) = sm n w - w k + x := by
  induction n with
  | zero => omega
  | succ n ih =>
    show sm n (upf w k x) + upf w k x n = sm n w + w n - w k + x
    by_cases e : k = n
    · subst e
      have : sm k (upf w k x) = sm k w := sm_congr fun i hi => by unfold upf; rw [if_neg (by omega)]
      rw [this]
      unfold upf
      rw [if_pos rfl]
      grind
    · rw [ih (by omega)]
      unfold upf
      rw [if_neg (show ¬ n = k by omega)]
      grind
theorem enc_divInt1 {x : Int} (h : 0 < x) : D.tup [.int 1, .int x] = encQ (Rat.divInt 1 x) := by
  rw [encQ_divInt h, Int.gcd_one_left]
  simp
end DL
set_option Elab.async false
set_option linter.all false
set_option autoImplicit false
set_option maxRecDepth 100000
namespace DL
open PySem PySem.Spec
open PyProof.Rows hiding St
open L2
local macro_rules | `(tactic| lcg_off) => `(tactic| simp only [mVar, mC, mNil, mCons, mTup, mTupF, mLst, mFz, mOp, oI0, oI, oEq, oNe, oIsN, oNotN, oIsB, oIsNotB, oCatT, oCatL, oRepT, mRepL, mIx, mSq, mOwn, mTst, mAnd, mOr, mNot, mAndV, mOrV, mNotV, mIf, mNeg, mCall, mCB, cAbs, cInt, mLen, mTupO, mLstO, mLrg1, mSum, mAny, mAll, mIndex, mNoP, mPart, mSlT, mSlL, mIsi, mDGet, mDisp, mPairs, mWeak, mSeqI, mRange1, mRange2, mYes, gNm, gTupD, gConsD, gNilD, mLc, mNext, mSeq, mBreak, mCont, mAsg, mSet, mSetOw, mPar, mPar3, mParO, mParO1, mParOO, mDrop, mRet, mRetN, mIfS, mGive, mApp, mSetIx, mIns, mRem, isOw, onOw, mEqQ, mNeQ, mNewT, mPutT, onDt, mGetT, mFor, startD, List.map_cons, List.map_nil, List.length_cons, List.length_nil, List.cons_append, List.nil_append, List.getElem?_cons_zero, List.getElem?_cons_succ, List.set_cons_zero, List.set_cons_succ, List.replicate_succ, List.replicate_zero, Nat.reduceAdd, Nat.reduceSub, Nat.zero_add, Nat.sub_self, decide_eq_true_eq, Bool.not_eq_true, Bool.not_eq_eq_eq_not, if_true, if_false, ite_true, ite_false, Bool.false_eq_true, noOw, wipeD, List.all_cons, List.all_nil, Bool.and_true, true_and, and_true, D.isNon, Bool.not_true, Bool.not_false])
def bentBody : SD := (mSeq (mPar3 11 12 13 (mCons (mCall fTake (mCons (mVar 0) (mCons (mVar 1) mNil))) (mCons (mCall fTake (mCons (mVar 0) (mCons (mVar 1) mNil))) (mCons (mTup (mCons (mC (.int 1)) (mCons (mOp (oI0 fun i j => .int (i + j)) (mC (.int 3)) (mCall fTake (mCons (mVar 0) (mCons (mC (.int 40)) mNil)))) mNil))) mNil)))) (mSeq (mSetOw 14 (mLstO (mSq (mVar 9)))) (mSeq (mSetIx 14 (mVar 11) (mCall (fBinL (· - ·)) (mCons (mIx (mOwn 14) (mVar 11)) (mCons (mVar 13) mNil)))) (mSeq (mSetIx 14 (mVar 12) (mCall fAddG (mCons (mIx (mOwn 14) (mVar 12)) (mCons (mVar 13) mNil)))) (mSeq (mSet 15 (mAndV (mOp oEq (mLen (mSq (mFz (mLc [16] (mSeqI (mOwn 14)) (gNm 16) (mTst (mOp (oI0 fun i j => .bl (decide (i < j))) (mIx (mSq (mVar 16)) (mC (.int 0))) (mC (.int 0)))) (mVar 16))))) (mC (.int 0))) (mOp oEq (mLen (mSq (mFz (mLc [3] (mRange1 (mCons (mVar 1) mNil)) (gNm 3) (mTst (mCall fLess (mCons (mCall fOverL (mCons (mIx (mSq (mVar 4)) (mVar 3)) (mCons (mWeak (mVar 5)) mNil))) (mCons (mIx (mOwn 14) (mVar 3)) mNil)))) (mVar 3))))) (mC (.int 0))))) (mSeq (mSet 17 (mCall fAddG (mCons (mVar 6) (mCons (mTup (mCons (mCall fTake (mCons (mVar 0) (mCons (mC (.int 2)) mNil))) (mCons (mC (.int 5)) mNil))) mNil)))) (mGive 14 (mIfS (mTst (mOp oNe (mCall fAcc (mCons (mVar 2) (mCons (mVar 4) (mCons (mWeak (mVar 5)) (mCons (mVar 17) (mCons (mTupO (mSq (mVar 14))) mNil)))))) (mAndV (mVar 15) (mNotV (mCall fLess (mCons (mVar 17) (mCons (mCall fDotL (mCons (mVar 14) (mCons (mVar 2) mNil))) mNil))))))) (mRet (mC (.bl false))) mNext))))))))
def isNegD : D → Bool
  | .tup (.int a :: _) => decide (a < 0)
  | _ => false
theorem filt_nil {α : Type} (p : α → Bool) (xs : List α) : (xs.filter p).length = 0 ↔ ∀ x ∈ xs, p x = false := by
  rw [List.length_eq_zero_iff, List.filter_eq_nil_iff]
  simp
theorem eqv_bl (a b : Bool) : D.eqv (.bl a) (.bl b) = (a == b) := by cases a <;> cases b <;> rfl
theorem take_ix {n : Nat} (h1 : 1 ≤ n) {r : Int} (a : (n : Int) < 2 → r = 0) (b : 2 ≤ (n : Int) → 0 ≤ r ∧ r < n) : ∃ i : Nat, i < n ∧ r = (i : Int) :=
  ⟨r.toNat, by omega, by omega⟩
theorem bent_step {Q : D → Prop} {rt : D → Prop} {bk : En → Prop} {n : Nat} {v c w : Nat → Rat} {s due : Rat} (hn1 : 1 ≤ n) (hn6 : n ≤ 6) (hv : ∀ i, i < n → Sz 2 (v i)) (hc : ∀ i, i < n → Sz 6 (c i)) (hw : ∀ i, i < n → Sz 54 (w i)) (hs : Sz 6 s) (hs0 : s ≠ 0) (hdue : Sz 82 due) (hw1 : sm n w = 1)
    {e3 e7 e8 e10 e11 e12 e13 e14 e15 e16 e17 e18 : EV} (h3 : ∀ p c, e3 ≠ .ow p c) (h16 : ∀ p c, e16 ≠ .ow p c) (K : En → Prop)
    (hK : ∀ e11 e12 e13 e14 e15 e17, K [.fz .tok, .fz (.int (n : Int)), .fz (.lst (vec n v)), e3, .fz (.tup (vec n c)), .fz (.tupF [.int s.num, .int s.den]), .fz (encQ due), e7, e8, .fz (.lst (vec n w)), e10, e11, e12, e13, e14, e15, e16, e17, e18]) :
    bentBody { nx := K, rt := rt, bk := bk, ct := K } [.fz .tok, .fz (.int (n : Int)), .fz (.lst (vec n v)), e3, .fz (.tup (vec n c)), .fz (.tupF [.int s.num, .int s.den]), .fz (encQ due), e7, e8, .fz (.lst (vec n w)), e10, e11, e12, e13, e14, e15, e16, e17, e18] := by
  unfold bentBody
  lcg_off
  refine ⟨n, rfl, by omega, fun r ga gb => ?_⟩
  obtain ⟨a, ha, rfl⟩ := take_ix hn1 ga gb
  refine ⟨n, rfl, by omega, fun r hb1 hb2 => ?_⟩
  obtain ⟨b, hb, rfl⟩ := take_ix hn1 hb1 hb2
  refine ⟨40, rfl, by decide, fun r _ hr => ?_⟩
  have hr := hr (by decide)
  have e3r : (0 : Int) < 3 + r := by omega
  dsimp only
  rw [enc_divInt1 e3r]
  have hm : Sz 6 (Rat.divInt 1 (3 + r)) := divInt_sz (by omega) (by omega) (by omega)
  generalize Rat.divInt 1 (3 + r) = m at hm
  refine ⟨by decide, fun p => ?_⟩
  rw [atD_vec ha]
  refine ⟨_, _, 54, 6, rfl, hw a ha, hm, by omega, ?_⟩
  dsimp only
  rw [vec_length, ixN_nat ha]
  dsimp only
  rw [vec_set w _ ha, atD_vec hb]
  have z1 : ∀ i, i < n → Sz 61 (upf w a (w a - m) i) := fun i hi => by
    unfold upf
    split
    · exact (hw a ha).sub hm
    · exact (hw i hi).mono (by omega)
  have q1 : sm n (upf w a (w a - m)) = 1 - m := by rw [sm_upf _ _ ha, hw1]; grind
  generalize upf w a (w a - m) = w1 at z1 q1
  refine addG_q (z1 b hb) hm (by omega) ?_
  rw [vec_length, ixN_nat hb]
  dsimp only
  rw [vec_set w1 _ hb]
  have z2 : ∀ i, i < n → Sz 68 (upf w1 b (w1 b + m) i) := fun i hi => by
    unfold upf
    split
    · exact (z1 b hb).add hm
    · exact (z1 i hi).mono (by omega)
  have q2 : sm n (upf w1 b (w1 b + m)) = 1 := by rw [sm_upf _ _ hb, q1]; grind
  generalize upf w1 b (w1 b + m) = w2 at z2 q2
  refine ⟨by cases e16 <;> first | rfl | exact absurd rfl (h16 _ _), by rw [vec_length]; omega, ?_⟩
  refine compD_fm isNegD id _ _ _ (fun x hx k k0 k1 k2 => ?_) ?_
  · obtain ⟨i, hi, rfl⟩ := List.mem_map.mp hx
    have hx2 : isNegD (encQ (w2 i)) = decide ((w2 i).num < 0) := rfl
    rw [hx2] at k1 k2
    unfold encQ at k1 ⊢
    lcg_off
    rw [atD0]
    by_cases h : (w2 i).num < 0
    · simp only [h, decide_true, if_true] at k1 ⊢
      exact k1 trivial
    · simp only [h, decide_false, if_false, Bool.false_eq_true] at k2 ⊢
      exact k2 trivial
  rw [List.nil_append, List.map_id]
  have nA := filt_nil isNegD (vec n w2)
  have nA2 : (∀ x ∈ vec n w2, isNegD x = false) ↔ ∀ i, i < n → 0 ≤ w2 i := by
    constructor
    · intro h i hi
      have := h _ (List.mem_map.mpr ⟨i, List.mem_range.mpr hi, rfl⟩)
      have h2 : isNegD (encQ (w2 i)) = decide ((w2 i).num < 0) := rfl
      rw [h2, neg_dec, decide_eq_false_iff_not, Rat.not_lt] at this
      exact this
    · intro h x hx
      obtain ⟨i, hi, rfl⟩ := List.mem_map.mp hx
      have h2 : isNegD (encQ (w2 i)) = decide ((w2 i).num < 0) := rfl
      rw [h2, neg_dec, decide_eq_false_iff_not, Rat.not_lt]
      exact h i (List.mem_range.mp hi)
  rw [nA2] at nA
  clear nA2
  generalize (List.filter isNegD (vec n w2)).length = LA at nA
  rw [show (0 : Int) = ((0 : Nat) : Int) from rfl, eqv_int]
  refine ⟨rfl, rfl, ?_⟩
  have zd : ∀ told : Rat, sm n (fun i => w2 i * v i) ≤ told ↔ ¬ told < sm n (fun i => w2 i * v i) := fun told => Rat.not_lt.symm
  have hz : n * (68 + 2 + 1) ≤ 6 * 71 := Nat.mul_le_mul_right _ hn6
  have toldK : ∀ K2 : D → Prop, (∀ told : Rat, Sz 86 told → K2 (encQ told)) → fTake [D.tok, D.int 2] fun d => 2 ≤ 1000000 ∧ fAddG [encQ due, D.tup [d, D.int 5]] K2 := by
    intro K2 h
    refine ⟨2, rfl, by decide, fun r _ hr => ⟨by decide, due.num, due.den, r, 5, 82, 3, rfl, den_pos' due, by decide, hdue.1, hdue.dn, by have := hr (by decide); omega, by decide, by decide, ?_⟩⟩
    rw [divInt_self]
    have hr := hr (by decide)
    exact h _ (hdue.add (divInt_sz (n := 3) (a := r) (b := 5) (by decide) (by omega) (by decide)))
  have accK : ∀ (told : Rat) (K2 : D → Prop), Sz 86 told → (∀ r : Bool, (r = true ↔ (∀ i, i < n → 0 ≤ w2 i) ∧ (∀ i, i < n → w2 i ≤ c i / s) ∧ sm n (fun i => w2 i * v i) ≤ told) → K2 (.bl r)) →
      fAcc [D.lst (vec n v), D.tup (vec n c), (D.tupF [D.int s.num, D.int ↑s.den]).weak, encQ told, D.tup (vec n w2)] K2 := by
    intro told K2 ht h
    refine ⟨_, _, n, v, c, s, told, .inl rfl, .inr rfl, by omega, .inr ⟨w2, 2, 100, rfl, (fun i hi => ⟨hv i hi, (hc i hi).mono (by decide), (z2 i hi).mono (by decide)⟩), hs.mono (by decide), ht.mono (by decide), hs0, by decide, by decide, fun r hr => h r ?_⟩⟩
    rw [hr, q2]
    exact ⟨fun z => z.2, fun z => ⟨rfl, z⟩⟩
  by_cases hA : LA = 0
  · rw [decide_eq_true (show ((LA : Nat) : Int) = ((0 : Nat) : Int) by omega)]
    simp only [if_true]
    have hnn := nA.mp hA
    rw [Int.toNat_natCast]
    refine ⟨by omega, by omega, by cases e3 <;> first | rfl | exact absurd rfl (h3 _ _), by rw [List.length_map, List.length_range]; omega, ?_⟩
    refine compD_fm (fun x => decide (c (nOf x) / s < w2 (nOf x))) id (ixs n) _ _ (fun x hx k k0 k1 k2 => ?_) ?_
    · obtain ⟨i, hi, rfl⟩ := mem_ixs hx
      rw [nOf_int] at k1 k2
      lcg_off
      rw [atD_vec hi]
      refine ⟨_, _, 6, 6, rfl, hs0, hc i hi, hs, by decide, ?_⟩
      dsimp only
      rw [atD_vec hi]
      refine ⟨_, _, 12, 68, rfl, (hc i hi).div hs hs0, z2 i hi, by decide, ?_⟩
      by_cases h : c i / s < w2 i
      · simp only [h, decide_true, if_true] at k1 ⊢
        exact k1 trivial
      · simp only [h, decide_false, if_false, Bool.false_eq_true] at k2 ⊢
        exact k2 trivial
    rw [List.nil_append, List.map_id]
    have nB := filt_nil (fun x => decide (c (nOf x) / s < w2 (nOf x))) (ixs n)
    have nB2 : (∀ x ∈ ixs n, (fun x => decide (c (nOf x) / s < w2 (nOf x))) x = false) ↔ ∀ i, i < n → w2 i ≤ c i / s := by
      constructor
      · intro h i hi
        have := h _ (List.mem_map.mpr ⟨i, List.mem_range.mpr hi, rfl⟩)
        dsimp only at this
        rw [nOf_int, decide_eq_false_iff_not, Rat.not_lt] at this
        exact this
      · intro h x hx
        obtain ⟨i, hi, rfl⟩ := mem_ixs hx
        dsimp only
        rw [nOf_int, decide_eq_false_iff_not, Rat.not_lt]
        exact h i hi
    rw [nB2] at nB
    clear nB2
    generalize (List.filter (fun x => decide (c (nOf x) / s < w2 (nOf x))) (ixs n)).length = LB at nB
    rw [eqv_int]
    refine ⟨rfl, rfl, toldK _ fun told ht => accK _ _ ht fun r hr => ?_⟩
    by_cases hB : LB = 0
    · rw [decide_eq_true (show ((LB : Nat) : Int) = ((0 : Nat) : Int) by omega)]
      simp only [if_true]
      refine ⟨.lst (vec n w2), .lst (vec n v), n, w2, v, 68, 2, rfl, .inl rfl, .inl rfl, (fun i hi => ⟨z2 i hi, hv i hi⟩), by omega, ?_⟩
      refine ⟨_, _, 86, 1 + n * (68 + 2 + 1), rfl, ht, sz_sm fun i hi => (z2 i hi).mul (hv i hi), by omega, ?_⟩
      dsimp only
      refine ⟨rfl, rfl, ?_⟩
      have er : r = !decide (told < sm n fun i => w2 i * v i) := by
        rw [Bool.eq_iff_iff, hr, Bool.not_eq_true', decide_eq_false_iff_not, zd]
        exact ⟨fun z => z.2.2, fun z => ⟨hnn, nB.mp hB, z⟩⟩
      rw [← er, eqv_bl, beq_self_eq_true, if_neg (by decide)]
      exact hK _ _ _ _ _ _
    · rw [decide_eq_false (show ¬ ((LB : Nat) : Int) = ((0 : Nat) : Int) by omega)]
      simp only [Bool.false_eq_true, if_false]
      have : r = false := by
        cases r with
        | false => rfl
        | true => exact absurd (nB.mpr (hr.mp rfl).2.1) hB
      subst this
      rw [eqv_bl, beq_self_eq_true, if_neg (by decide)]
      exact ⟨rfl, rfl, hK _ _ _ _ _ _⟩
  · rw [decide_eq_false (show ¬ ((LA : Nat) : Int) = ((0 : Nat) : Int) by omega)]
    simp only [Bool.false_eq_true, if_false]
    refine toldK _ fun told ht => accK _ _ ht fun r hr => ?_
    have : r = false := by
      cases r with
      | false => rfl
      | true => exact absurd (nA.mpr (hr.mp rfl).1) hA
    subst this
    rw [eqv_bl, beq_self_eq_true, if_neg (by decide)]
    exact ⟨rfl, rfl, hK _ _ _ _ _ _⟩
end DL
set_option Elab.async false
set_option linter.all false
set_option autoImplicit false
set_option maxRecDepth 100000
namespace DL
open PySem PySem.Spec
open PyProof.Rows hiding St
open L2
local macro_rules | `(tactic| lcg_off) => `(tactic| simp only [mVar, mC, mNil, mCons, mTup, mTupF, mLst, mFz, mOp, oI0, oI, oEq, oNe, oIsN, oNotN, oIsB, oIsNotB, oCatT, oCatL, oRepT, mRepL, mIx, mSq, mOwn, mTst, mAnd, mOr, mNot, mAndV, mOrV, mNotV, mIf, mNeg, mCall, mCB, cAbs, cInt, mLen, mTupO, mLstO, mLrg1, mSum, mAny, mAll, mIndex, mNoP, mPart, mSlT, mSlL, mIsi, mDGet, mDisp, mPairs, mWeak, mSeqI, mRange1, mRange2, mYes, gNm, gTupD, gConsD, gNilD, mLc, mNext, mSeq, mBreak, mCont, mAsg, mSet, mSetOw, mPar, mPar3, mParO, mParO1, mParOO, mDrop, mRet, mRetN, mIfS, mGive, mApp, mSetIx, mIns, mRem, isOw, onOw, mEqQ, mNeQ, mNewT, mPutT, onDt, mGetT, mFor, startD, List.map_cons, List.map_nil, List.length_cons, List.length_nil, List.cons_append, List.nil_append, List.getElem?_cons_zero, List.getElem?_cons_succ, List.set_cons_zero, List.set_cons_succ, List.replicate_succ, List.replicate_zero, Nat.reduceAdd, Nat.reduceSub, Nat.zero_add, Nat.sub_self, decide_eq_true_eq, Bool.not_eq_true, Bool.not_eq_eq_eq_not, if_true, if_false, ite_true, ite_false, Bool.false_eq_true, noOw, wipeD, List.all_cons, List.all_nil, Bool.and_true, true_and, and_true, D.isNon, Bool.not_true, Bool.not_false])
theorem eqv_lst_cons (x y : D) (xs ys : List D) : D.eqv (.lst (x :: xs)) (.lst (y :: ys)) = (D.eqv x y && D.eqv (.lst xs) (.lst ys)) := rfl
theorem eqv_tup_cons (x y : D) (xs ys : List D) : D.eqv (.tup (x :: xs)) (.tup (y :: ys)) = (D.eqv x y && D.eqv (.tup xs) (.tup ys)) := rfl
theorem eqv_lst_refl : ∀ xs : List D, (∀ x ∈ xs, D.eqv x x = true) → D.eqv (.lst xs) (.lst xs) = true
  | [], _ => rfl
  | x :: xs, h => by
    rw [eqv_lst_cons, h x List.mem_cons_self, eqv_lst_refl xs fun y hy => h y (List.mem_cons_of_mem _ hy)]; rfl
theorem eqv_tup_refl : ∀ xs : List D, (∀ x ∈ xs, D.eqv x x = true) → D.eqv (.tup xs) (.tup xs) = true
  | [], _ => rfl
  | x :: xs, h => by
    rw [eqv_tup_cons, h x List.mem_cons_self, eqv_tup_refl xs fun y hy => h y (List.mem_cons_of_mem _ hy)]; rfl
theorem eqv_nats (L : List Nat) : D.eqv (.lst (natsD L)) (.lst (natsD L)) = true := eqv_lst_refl _ fun x hx => by
  obtain ⟨i, _, rfl⟩ := List.mem_map.mp hx
  rw [eqv_int]; exact decide_eq_true rfl
theorem eqv_encr (q : Rat) : D.eqv (encQ q) (encQ q) = true := by rw [eqv_enc]; exact decide_eq_true rfl
theorem eqv_vec (n : Nat) (v : Nat → Rat) : D.eqv (.tup (vec n v)) (.tup (vec n v)) = true := eqv_tup_refl _ fun x hx => by
  obtain ⟨i, _, rfl⟩ := List.mem_map.mp hx
  exact eqv_encr _
theorem eqv_vecl (n : Nat) (v : Nat → Rat) : D.eqv (.lst (vec n v)) (.lst (vec n v)) = true := eqv_lst_refl _ fun x hx => by
  obtain ⟨i, _, rfl⟩ := List.mem_map.mp hx
  exact eqv_encr _
theorem pl_vec (n : Nat) (v : Nat → Rat) : D.pl 60 (.tup (vec n v)) = true := by
  show (vec n v).all (D.pl 59) = true
  rw [List.all_eq_true]
  intro x hx
  obtain ⟨i, _, rfl⟩ := List.mem_map.mp hx
  rfl
theorem pl_vecl (n : Nat) (v : Nat → Rat) : D.pl 60 (.lst (vec n v)) = true := by
  show (vec n v).all (D.pl 59) = true
  rw [List.all_eq_true]
  intro x hx
  obtain ⟨i, _, rfl⟩ := List.mem_map.mp hx
  rfl
theorem wtup (s : Rat) : (D.tupF [.int s.num, .int (s.den : Int)]).weak = encQ s := rfl
theorem enc_of {q : Rat} {a b : Int} (h1 : q.num = a) (h2 : (q.den : Int) = b) : D.tup [D.int a, D.int b] = encQ q := by
  subst h1; subst h2; rfl
def unQ : D → Rat
  | .tup (.int a :: .int b :: _) => Rat.divInt a b
  | _ => 0
theorem unQ_enc (q : Rat) : unQ (encQ q) = q := divInt_self q
theorem vec_map (n : Nat) (w : Nat → Rat) (f : Rat → Rat) : (vec n w).map (fun x => encQ (f (unQ x))) = vec n fun i => f (w i) := by
  unfold vec
  rw [List.map_map]
  refine List.map_congr_left fun i _ => ?_
  show encQ (f (unQ (encQ (w i)))) = _
  rw [unQ_enc]
theorem sm_mul (r : Rat) (f : Nat → Rat) : ∀ n, sm n (fun i => r * f i) = r * sm n f
  | 0 => by show (0 : Rat) = r * 0; grind
  | n + 1 => by
    show sm n (fun i => r * f i) + r * f n = r * (sm n f + f n)
    rw [sm_mul r f n]; grind
theorem p__law_values : ∀ ds Q, (fun ds Q => ds = [.tok] ∧ Q (.bl true)) ds Q → b__law_values fTake fFr fParts2 fShare fThr fPlaces fPlaces fWorst fLeast2 fOverL (fBinL (· - ·)) fWW fDotL fAcc fAddG fLess (fBinL (· * ·)) { nx := fun _ => Q .non, rt := Q } (startD N__law_values ds) := by
  rintro ds Q ⟨rfl, hQ⟩
  unfold b__law_values
  lcg_off
  refine ⟨6, rfl, by decide, fun r _ hr => ?_⟩
  obtain ⟨n, hn1, hn6, rfl⟩ : ∃ n : Nat, 1 ≤ n ∧ n ≤ 6 ∧ r = (n : Int) - 1 := ⟨(r + 1).toNat, by have := hr (by decide); omega, by have := hr (by decide); omega, by have := hr (by decide); omega⟩
  dsimp only
  rw [show (1 : Int) + ((n : Int) - 1) = (n : Int) by omega, Int.toNat_natCast]
  refine ⟨by omega, by omega, by rw [List.length_map, List.length_range]; omega, ?_⟩
  refine compD_rel (fun _ y => ∃ q : Rat, y = encQ q ∧ Sz 2 q) (ixs n) [] _ (fun x hx k hk => ?_) ?_
  · lcg_off
    refine ⟨7, rfl, by decide, fun r _ hr => ⟨2, rfl, by decide, fun r2 _ hr2 => ?_⟩⟩
    have h1 := hr (by decide)
    have h2 := hr2 (by decide)
    have h3 : (2 : Nat) ^ 2 ≤ 2 ^ 2990 := pow_lt_pow2 (by decide)
    exact ⟨r - 3, 1 + r2, rfl, by omega, by omega, hk _ ⟨_, rfl, divInt_sz (by omega) (by omega) (by omega)⟩⟩
  intro ys hys
  obtain ⟨v, rfl, hv⟩ := vec_of_rel (fun _ _ h => h) (ixs_length n) hys
  rw [List.nil_append]
  refine ⟨n, rfl, hn1, by omega, fun c hc hc1 _ => ?_⟩
  refine ⟨rfl, fun s hs hs0 hs1 => ?_⟩
  lcg_off
  have hn0 : ∀ i, i < n → 0 ≤ c i := fun i hi => Rat.le_of_lt (hc i hi).2
  have hsm : s ≤ sm n c := by rw [hc1]; exact hs1
  have hsne : s ≠ 0 := by grind
  have hvc : ∀ i, i < n → Sz 2 (v i) ∧ Sz 6 (c i) := fun i hi => ⟨hv i hi, (hc i hi).1⟩
  have hM : n * (6 + (2 + 2 + 1) + 1) ≤ 6 * 12 := Nat.mul_le_mul_right _ hn6
  have hdue : Sz 82 (wsh c v s n) := (wsh_sz hvc hs hs0 hn1 hn0 hsm rfl).mono (by omega)
  have hB : n * (6 + 1) ≤ 6 * 7 := Nat.mul_le_mul_right _ hn6
  have hM2 : n * (48 + 2 + 1) ≤ 6 * 51 := Nat.mul_le_mul_right _ hn6
  rw [wtup]
  refine ⟨by decide, .lst (vec n v), .tup (vec n c), n, v, c, s, 2, 6, 6, _, rfl, .inl rfl, .inr rfl, hvc, hs, hs0, hsm, hn0, hn1, by omega, rfl, by omega, ?_⟩
  refine ⟨_, n, v, 2, rfl, .inl rfl, hv, by omega, by decide, ?_⟩
  refine ⟨_, n, v, 2, rfl, .inl rfl, hv, by omega, by decide, ?_⟩
  dsimp only
  rw [eqv_nats]
  refine ⟨pl_nats _, pl_nats _, ?_⟩
  simp only [Bool.true_eq_false, if_false]
  refine ⟨_, _, n, v, c, s, 2, 6, 48, 307, rfl, .inl rfl, .inr rfl, hvc, hs, hsne, by omega, by decide, by omega, by decide, by omega, by decide, ?_⟩
  have ewsh : gF c v (places v n) s 0 / s = wsh c v s n := rfl
  (try dsimp only)
  rw [ewsh, eqv_encr]
  refine ⟨rfl, rfl, ?_⟩
  simp only [Bool.true_eq_false, if_false]
  refine ⟨by decide, by decide, by decide, by omega, by omega, by omega, fun p => ?_⟩
  rw [enc01, enc11, flat_rep, vec_const]
  have hw0 : gW (fun i => c i / s) 1 (places v n) 1 (fun _ => 0) = wts c v s n := by
    have := gW_scale hs0 (places v n) s (c := c) fun _ => 0
    rw [Rat.div_def s s, Rat.mul_inv_cancel _ hsne] at this
    exact this
  have hB2 : n * (6 + 6 + 1) ≤ 6 * 13 := Nat.mul_le_mul_right _ hn6
  refine lw_loop (e := .tup (vec n c)) (s := s) (c := c) (B := 90) (.inr rfl) (fun i hi => (hc i hi).1) hs hsne (by decide) (places v n) 1 (fun _ => 0) 12 _ (fun p c z => by cases z) (fun i hi => mem_places.mp hi) (by decide) (sz11.mono (by decide)) (by rw [places_len]; omega) fun l' e3 h3 => ?_
  rw [hw0]
  have hwsz : ∀ i, i < n → Sz 54 (wts c v s n i) := fun i hi => wts_sz (B := 48) (fun i hi => (hc i hi).1) hs hsne (by omega) hi
  have hw1 : sm n (wts c v s n) = 1 := wts_one hn0 hs0 hsm
  lcg_off
  rw [wtup]
  have ew : gW c s (places v n) s (fun _ => 0) = wts c v s n := rfl
  have accK : ∀ (told : Rat) (b : Bool) (K2 : D → Prop), Sz 100 told → (b = true ↔ wsh c v s n ≤ told) → K2 (.bl b) → fAcc [D.lst (vec n v), D.tup (vec n c), encQ s, encQ told, D.tup (vec n (wts c v s n))] K2 := by
    intro told b K2 ht hb hk
    refine ⟨_, _, n, v, c, s, told, .inl rfl, .inr rfl, by omega, .inr ⟨wts c v s n, 2, 100, rfl, (fun i hi => ⟨hv i hi, (hc i hi).1.mono (by decide), (hwsz i hi).mono (by decide)⟩), hs.mono (by decide), ht, hsne, by decide, by decide, fun r hr => ?_⟩⟩
    rw [wts_dot] at hr
    have : r = b := by
      rw [Bool.eq_iff_iff, hr, hb]
      exact ⟨fun z => z.2.2.2, fun z => ⟨hw1, (fun i hi => (wts_bnd hn0 hs0 hi).1), (fun i hi => (wts_bnd hn0 hs0 hi).2), z⟩⟩
    rw [this]; exact hk
  have hdz : n * (54 + 2 + 1) ≤ 6 * 57 := Nat.mul_le_mul_right _ hn6
  refine ⟨_, _, n, v, c, s, 2, 6, 48, rfl, .inl rfl, .inr rfl, hvc, hs, hsne, by omega, by decide, by omega, by decide, ?_⟩
  (try dsimp only)
  rw [ew, eqv_vec]
  refine ⟨pl_vec _ _, pl_vec _ _, ?_⟩
  simp only [Bool.true_eq_false, if_false]
  refine ⟨.lst (vec n (wts c v s n)), .lst (vec n v), n, wts c v s n, v, 54, 2, rfl, .inl rfl, .inl rfl, (fun i hi => ⟨hwsz i hi, hv i hi⟩), by omega, ?_⟩
  (try dsimp only)
  rw [wts_dot, eqv_encr]
  refine ⟨rfl, rfl, ?_⟩
  simp only [Bool.true_eq_false, if_false]
  refine accK _ true _ (hdue.mono (by decide)) ⟨fun _ => Rat.le_refl, fun _ => rfl⟩ ?_
  simp only [decide_true, Bool.true_eq_false, if_false]
  refine ⟨by decide, ?_⟩
  rw [show D.tup [D.int 1, D.int 9] = encQ (1/9) from enc_of (by decide +kernel) (by decide +kernel)]
  refine ⟨_, _, 82, 4, rfl, hdue, ⟨by decide +kernel, by decide +kernel⟩, by decide, ?_⟩
  (try dsimp only)
  refine accK _ false _ ((hdue.sub (m := 4) ⟨by decide +kernel, by decide +kernel⟩).mono (by decide)) ⟨(fun z => by cases z), fun z => ?_⟩ ?_
  · exfalso
    have : (0 : Rat) < 1/9 := by decide +kernel
    grind
  simp only [decide_true, Bool.true_eq_false, if_false]
  refine ⟨by decide, by decide, ?_⟩
  refine forD_inv (fun _ G => ∃ e10 e11 e12 e13 e14 e15 e17 : EV, G = [.fz .tok, .fz (.int (n : Int)), .fz (.lst (vec n v)), e3, .fz (.tup (vec n c)), .fz (.tupF [.int s.num, .int s.den]), .fz (encQ (wsh c v s n)), .fz (.lst (natsD (places v n))), .fz (encQ l'), .fz (.lst (vec n (wts c v s n))), e10, e11, e12, e13, e14, e15, .un, e17, .un]) ?_ ?_ _ _ ⟨.un, .un, .un, .un, .un, .un, .un, rfl⟩
  · rintro x rest G k hk ⟨e10, e11, e12, e13, e14, e15, e17, rfl⟩
    refine ⟨trivial, ?_⟩
    exact bent_step (Q := Q) hn1 hn6 hv (fun i hi => (hc i hi).1) hwsz hs hsne hdue hw1 h3 (fun p c z => by cases z) k fun e11 e12 e13 e14 e15 e17 => hk _ ⟨_, _, _, _, _, _, _, rfl⟩
  · rintro G ⟨e10, e11, e12, e13, e14, e15, e17, rfl⟩
    refine ⟨trivial, ?_⟩
    lcg_off
    refine ⟨by rw [vec_length]; omega, ?_⟩
    refine compD_map (fun x => encQ ((1/2) * unQ x)) _ _ _ (fun x hx k hk => ?_) ?_
    · obtain ⟨i, hi, rfl⟩ := List.mem_map.mp hx
      lcg_off
      refine ⟨by decide, ?_⟩
      rw [show D.tup [D.int 1, D.int 2] = encQ (1/2) from enc_of (by decide +kernel) (by decide +kernel)]
      rw [unQ_enc] at hk
      exact ⟨_, _, 2, 54, rfl, ⟨by decide +kernel, by decide +kernel⟩, hwsz i (List.mem_range.mp hi), by decide, hk⟩
    · rw [List.nil_append, vec_map n _ fun x => (1/2) * x]
      refine ⟨by decide, ?_⟩
      rw [show D.tup [D.int 100, D.int 1] = encQ 100 from enc_of (by decide +kernel) (by decide +kernel), wtup]
      refine ⟨_, _, n, v, c, s, 100, .inl rfl, .inr rfl, by omega, .inr ⟨_, 2, 100, rfl, (fun i hi => ⟨hv i hi, (hc i hi).1.mono (by decide), (Sz.mul (n := 2) ⟨by decide +kernel, by decide +kernel⟩ (hwsz i hi)).mono (by decide)⟩), hs.mono (by decide), ⟨by decide +kernel, by decide +kernel⟩, hsne, by decide, by decide, fun r hr => ?_⟩⟩
      rw [sm_mul, hw1] at hr
      have : r = false := by
        cases r with
        | false => rfl
        | true => exact absurd (hr.mp rfl).1 (by decide +kernel)
      subst this
      simp only [decide_true, if_true]
      refine ⟨_, _, n, v, c, s, _, .inl rfl, .inr rfl, by omega, .inl ⟨_, rfl, ?_⟩⟩
      exact hQ
end DL
set_option Elab.async false
set_option linter.all false
set_option autoImplicit false
set_option maxRecDepth 100000
namespace DL
open PySem PySem.Spec
open PyProof.Rows hiding St
open L2
local macro_rules | `(tactic| lcg_off) => `(tactic| simp only [mVar, mC, mNil, mCons, mTup, mTupF, mLst, mFz, mOp, oI0, oI, oEq, oNe, oIsN, oNotN, oIsB, oIsNotB, oCatT, oCatL, oRepT, mRepL, mIx, mSq, mOwn, mTst, mAnd, mOr, mNot, mAndV, mOrV, mNotV, mIf, mNeg, mCall, mCB, cAbs, cInt, mLen, mTupO, mLstO, mLrg1, mSum, mAny, mAll, mIndex, mNoP, mPart, mSlT, mSlL, mIsi, mDGet, mDisp, mPairs, mWeak, mSeqI, mRange1, mRange2, mYes, gNm, gTupD, gConsD, gNilD, mLc, mNext, mSeq, mBreak, mCont, mAsg, mSet, mSetOw, mPar, mPar3, mParO, mParO1, mParOO, mDrop, mRet, mRetN, mIfS, mGive, mApp, mSetIx, mIns, mRem, isOw, onOw, mEqQ, mNeQ, mNewT, mPutT, onDt, mGetT, mFor, startD, List.map_cons, List.map_nil, List.length_cons, List.length_nil, List.cons_append, List.nil_append, List.getElem?_cons_zero, List.getElem?_cons_succ, List.set_cons_zero, List.set_cons_succ, List.replicate_succ, List.replicate_zero, Nat.reduceAdd, Nat.reduceSub, Nat.zero_add, Nat.sub_self, decide_eq_true_eq, Bool.not_eq_true, Bool.not_eq_eq_eq_not, if_true, if_false, ite_true, ite_false, Bool.false_eq_true, noOw, wipeD, List.all_cons, List.all_nil, Bool.and_true, true_and, and_true, D.isNon, Bool.not_true, Bool.not_false])
/-! ## trees -/
structure WT (n : Nat) (par : Nat → Nat) : Prop where
  n0 : 0 < n
  n9 : n ≤ 9
  up : ∀ j, 0 < j → j < n → par j < j
  mom : ∃ m : Nat → Nat, m 0 = 0 ∧ (∀ j, 0 < j → j < n → m j = m (par j) + 1) ∧ ∀ j, j < n → m j ≤ 3
def kids (n : Nat) (par : Nat → Nat) (k : Nat) : List Nat := (List.range n).filter fun j => decide (j ≠ 0 ∧ par j = k)
theorem mem_kids {n : Nat} {par : Nat → Nat} {k j : Nat} : j ∈ kids n par k ↔ j < n ∧ j ≠ 0 ∧ par j = k := by
  unfold kids
  rw [List.mem_filter, List.mem_range, decide_eq_true_eq]
def backD (par : Nat → Nat) (j : Nat) : D := if j = 0 then .non else .int ((par j : Nat) : Int)
def nodeD (par : Nat → Nat) (pr : Nat → Rat) (j : Nat) : D := .tup [backD par j, .tup [encQ (pr j)]]
def nodesD (n : Nat) (par : Nat → Nat) (pr : Nat → Rat) : List D := (List.range n).map (nodeD par pr)
def treeD (n : Nat) (par : Nat → Nat) (pr : Nat → Rat) : D := .tup [.str "tree", .tup [.str "coin"], .tup (nodesD n par pr)]
theorem nodesD_len (n : Nat) (par : Nat → Nat) (pr : Nat → Rat) : (nodesD n par pr).length = n := by simp [nodesD]
theorem atD_nodes {n i : Nat} {par : Nat → Nat} {pr : Nat → Rat} (h : i < n) (Q : D → Prop) : atD (nodesD n par pr) ((i : Nat) : Int) Q = Q (nodeD par pr i) := by
  refine atD_get ?_ Q
  unfold nodesD
  rw [List.getElem?_map, List.getElem?_range h]; rfl
theorem atT0 (x y z : D) (Q : D → Prop) : atD [x, y, z] 0 Q = Q x := rfl
theorem atT1 (x y z : D) (Q : D → Prop) : atD [x, y, z] 1 Q = Q y := rfl
theorem atT2 (x y z : D) (Q : D → Prop) : atD [x, y, z] 2 Q = Q z := rfl
theorem filt_ixs (n : Nat) (p : Nat → Bool) : (ixs n).filter (fun x => p (nOf x)) = natsD ((List.range n).filter p) := by
  unfold ixs natsD
  rw [List.filter_map]
  rfl
theorem eqv_back (par : Nat → Nat) (j k : Nat) : D.eqv (backD par j) (.int ((k : Nat) : Int)) = decide (j ≠ 0 ∧ par j = k) := by
  unfold backD
  by_cases h : j = 0
  · rw [if_pos h, decide_eq_false (fun z => z.1 h)]; rfl
  · rw [if_neg h, eqv_int, decide_eq_decide]
    constructor
    · intro e; exact ⟨h, by omega⟩
    · intro e; rw [e.2]
theorem pl_back (par : Nat → Nat) (j : Nat) : D.pl 60 (backD par j) = true := by unfold backD; split <;> rfl
def fAhead : FS := fun ds Q => ∃ (n : Nat) (par : Nat → Nat) (pr : Nat → Rat) (k : Nat), ds = [treeD n par pr, .int ((k : Nat) : Int)] ∧ n ≤ 1000 ∧ Q (.lst (natsD (kids n par k)))
theorem p_ahead : ∀ ds Q, fAhead ds Q → b_ahead { nx := fun _ => Q .non, rt := Q } (startD N_ahead ds) := by
  rintro ds Q ⟨n, par, pr, k, rfl, hn, hQ⟩
  unfold b_ahead treeD
  lcg_off
  rw [atT2]
  dsimp only
  rw [nodesD_len, Int.toNat_natCast]
  refine ⟨by omega, by omega, by rw [List.length_map, List.length_range]; omega, ?_⟩
  refine compD_fm (fun x => (fun j => decide (j ≠ 0 ∧ par j = k)) (nOf x)) id (ixs n) _ _ (fun x hx q q0 k1 k2 => ?_) ?_
  · obtain ⟨i, hi, rfl⟩ := mem_ixs hx
    dsimp only at k1 k2
    rw [nOf_int] at k1 k2
    lcg_off
    rw [atT2]
    dsimp only
    rw [atD_nodes hi]
    unfold nodeD
    dsimp only
    rw [atD0, eqv_back]
    refine ⟨pl_back _ _, rfl, ?_⟩
    by_cases h : i ≠ 0 ∧ par i = k
    · rw [decide_eq_true h] at k1 ⊢
      simp only [if_true]
      exact k1 rfl
    · rw [decide_eq_false h] at k2 ⊢
      simp only [Bool.false_eq_true, if_false]
      exact k2 rfl
  · rw [List.nil_append, List.map_id, filt_ixs n fun j => decide (j ≠ 0 ∧ par j = k)]
    exact hQ
def fLast : FS := fun ds Q => ∃ (n : Nat) (par : Nat → Nat) (pr : Nat → Rat) (k : Nat), ds = [treeD n par pr, .int ((k : Nat) : Int)] ∧ n ≤ 1000 ∧ Q (.bl (decide (kids n par k = [])))
theorem natsD_len (L : List Nat) : (natsD L).length = L.length := by simp [natsD]
theorem p_is_last : ∀ ds Q, fLast ds Q → b_is_last fAhead { nx := fun _ => Q .non, rt := Q } (startD N_is_last ds) := by
  rintro ds Q ⟨n, par, pr, k, rfl, hn, hQ⟩
  unfold b_is_last
  lcg_off
  refine ⟨n, par, pr, k, rfl, hn, ?_⟩
  dsimp only
  rw [natsD_len, show (0 : Int) = ((0 : Nat) : Int) from rfl, eqv_int]
  refine ⟨rfl, rfl, ?_⟩
  have : decide (((kids n par k).length : Int) = ((0 : Nat) : Int)) = decide (kids n par k = []) := by
    rw [decide_eq_decide, ← List.length_eq_zero_iff]; omega
  rw [this]; exact hQ
def houseD (n : Nat) (par : Nat → Nat) (pr : Nat → Rat) (mo : D) : D := .dct [("things", .tup [.str "coin"]), ("nodes", .tup (nodesD n par pr)), ("moment", mo), ("ahead", .lst ((List.range n).map fun k => .lst (natsD (kids n par k))))]
def fTreeOf : FS := fun ds Q => ∃ (n : Nat) (par : Nat → Nat) (pr : Nat → Rat) (mo : D), ds = [houseD n par pr mo] ∧ Q (treeD n par pr)
theorem p__law_tree_of : ∀ ds Q, fTreeOf ds Q → b__law_tree_of { nx := fun _ => Q .non, rt := Q } (startD N__law_tree_of ds) := by
  rintro ds Q ⟨n, par, pr, mo, rfl, hQ⟩
  unfold b__law_tree_of houseD
  lcg_off
  simp [lookD]
  exact hQ
/-- kids of k number at most n -/
theorem kids_len (n : Nat) (par : Nat → Nat) (k : Nat) : (kids n par k).length ≤ n := by
  have := List.length_filter_le (fun j => decide (j ≠ 0 ∧ par j = k)) (List.range n)
  rw [List.length_range] at this
  exact this
/-! rows of rows -/
def rows (n : Nat) (len : Nat → Nat) (ch : Nat → Nat → Rat) : List D := (List.range n).map fun k => D.tup (vec (len k) (ch k))
theorem rows_len (n : Nat) (len : Nat → Nat) (ch : Nat → Nat → Rat) : (rows n len ch).length = n := by simp [rows]
theorem atD_rows {n i : Nat} {len : Nat → Nat} {ch : Nat → Nat → Rat} (h : i < n) (Q : D → Prop) : atD (rows n len ch) ((i : Nat) : Int) Q = Q (.tup (vec (len i) (ch i))) := by
  refine atD_get ?_ Q
  unfold rows
  rw [List.getElem?_map, List.getElem?_range h]; rfl
def fEven : FS := fun ds Q => ∃ (n : Nat) (par : Nat → Nat) (pr : Nat → Rat), ds = [treeD n par pr] ∧ n ≤ 100 ∧ Q (.tup ((List.range n).map fun k => .tup (List.replicate (kids n par k).length (.tup [.int 1, .int (kids n par k).length]))))
theorem p_even : ∀ ds Q, fEven ds Q → b_even fAhead { nx := fun _ => Q .non, rt := Q } (startD N_even ds) := by
  rintro ds Q ⟨n, par, pr, rfl, hn, hQ⟩
  have hQ' := hQ
  unfold b_even
  have main : compD [.fz (treeD n par pr), .un] (gNm 1) mYes (mOp oRepT (mTup (mCons (mTup (mCons (mC (.int 1)) (mCons (mLen (mSq (mCall fAhead (mCons (mVar 0) (mCons (mVar 1) mNil))))) mNil))) mNil)) (mLen (mSq (mCall fAhead (mCons (mVar 0) (mCons (mVar 1) mNil)))))) (ixs n) [] fun ds => Q (.tup ds) := by
    refine compD_map (fun x => .tup (List.replicate (kids n par (nOf x)).length (.tup [.int 1, .int (kids n par (nOf x)).length]))) _ _ _ (fun x hx q hq => ?_) ?_
    · obtain ⟨i, hi, rfl⟩ := mem_ixs hx
      rw [nOf_int] at hq
      lcg_off
      refine ⟨n, par, pr, i, rfl, by omega, ?_⟩
      have hl := kids_len n par i
      dsimp only
      refine ⟨by decide, by decide, n, par, pr, i, rfl, by omega, ?_⟩
      dsimp only
      rw [natsD_len]
      refine ⟨by simp, by omega, by omega, by decide, ?_⟩
      rw [Int.toNat_natCast, flat_rep]
      exact hq
    · rw [List.nil_append, ixs_map n fun i => .tup (List.replicate (kids n par i).length (.tup [.int 1, .int (kids n par i).length]))]
      exact hQ
  unfold treeD at main ⊢
  lcg_off
  rw [atT2]
  dsimp only
  rw [nodesD_len, Int.toNat_natCast]
  exact ⟨by omega, by omega, by rw [List.length_map, List.length_range]; omega, main⟩
end DL
set_option Elab.async false
set_option linter.all false
set_option autoImplicit false
set_option maxRecDepth 100000
namespace DL
open PySem PySem.Spec
open PyProof.Rows hiding St
open L2
local macro_rules | `(tactic| lcg_off) => `(tactic| simp only [mVar, mC, mNil, mCons, mTup, mTupF, mLst, mFz, mOp, oI0, oI, oEq, oNe, oIsN, oNotN, oIsB, oIsNotB, oCatT, oCatL, oRepT, mRepL, mIx, mSq, mOwn, mTst, mAnd, mOr, mNot, mAndV, mOrV, mNotV, mIf, mNeg, mCall, mCB, cAbs, cInt, mLen, mTupO, mLstO, mLrg1, mSum, mAny, mAll, mIndex, mNoP, mPart, mSlT, mSlL, mIsi, mDGet, mDisp, mPairs, mWeak, mSeqI, mRange1, mRange2, mYes, gNm, gTupD, gConsD, gNilD, mLc, mNext, mSeq, mBreak, mCont, mAsg, mSet, mSetOw, mPar, mPar3, mParO, mParO1, mParOO, mDrop, mRet, mRetN, mIfS, mGive, mApp, mSetIx, mIns, mRem, isOw, onOw, mEqQ, mNeQ, mNewT, mPutT, onDt, mGetT, mFor, startD, List.map_cons, List.map_nil, List.length_cons, List.length_nil, List.cons_append, List.nil_append, List.getElem?_cons_zero, List.getElem?_cons_succ, List.set_cons_zero, List.set_cons_succ, List.replicate_succ, List.replicate_zero, Nat.reduceAdd, Nat.reduceSub, Nat.zero_add, Nat.sub_self, decide_eq_true_eq, Bool.not_eq_true, Bool.not_eq_eq_eq_not, if_true, if_false, ite_true, ite_false, Bool.false_eq_true, noOw, wipeD, List.all_cons, List.all_nil, Bool.and_true, true_and, and_true, D.isNon, Bool.not_true, Bool.not_false])
/-! ## chance, mean, share_of, tilted -/
def klen (n : Nat) (par : Nat → Nat) (k : Nat) : Nat := (kids n par k).length
def ixOf (n : Nat) (par : Nat → Nat) (j : Nat) : Nat := (kids n par (par j)).idxOf j
structure Cond (n : Nat) (par : Nat → Nat) (ch : Nat → Nat → Rat) (on : Nat → Rat) : Prop where
  o0 : on 0 = 1
  up : ∀ j, 0 < j → j < n → on j = on (par j) * ch (par j) (ixOf n par j)
theorem ixOf_lt {n : Nat} {par : Nat → Nat} {j : Nat} (h0 : j ≠ 0) (h : j < n) : ixOf n par j < klen n par (par j) := List.idxOf_lt_length_iff.mpr (mem_kids.mpr ⟨h, h0, rfl⟩)
theorem on_sz {n : Nat} {par : Nat → Nat} {ch : Nat → Nat → Rat} {on : Nat → Rat} (W : WT n par) (C : Cond n par ch on) (hs : ∀ k, k < n → ∀ i, i < klen n par k → Sz 6 (ch k i)) : ∀ j, j < n → Sz 19 (on j) := by
  obtain ⟨m, m0, m1, m3⟩ := W.mom
  have : ∀ N j, j < N → j < n → Sz (1 + 6 * m j) (on j) := by
    intro N
    induction N with
    | zero => intro j h; omega
    | succ N ih =>
      intro j hj hn
      by_cases h0 : j = 0
      · subst h0; rw [C.o0, m0]; exact sz11
      · have hp := W.up j (by omega) hn
        rw [C.up j (by omega) hn, m1 j (by omega) hn]
        exact ((ih (par j) (by omega) (by omega)).mul (hs (par j) (by omega) _ (ixOf_lt h0 hn))).mono (by omega)
  intro j hj
  have h3 := m3 j hj
  exact (this (j + 1) j (by omega) hj).mono (by omega)
def fChance : FS := fun ds Q => ∃ (n : Nat) (par : Nat → Nat) (pr : Nat → Rat) (ch : Nat → Nat → Rat) (on : Nat → Rat) (k : Nat), ds = [treeD n par pr, .tup (rows n (klen n par) ch), .int ((k : Nat) : Int)] ∧ WT n par ∧ Cond n par ch on ∧ (∀ k, k < n → ∀ i, i < klen n par k → Sz 6 (ch k i)) ∧ k < n ∧ Q (encQ (on k))
theorem p_chance : ∀ ds Q, fChance ds Q → b_chance (fBin (· * ·)) fAhead { nx := fun _ => Q .non, rt := Q } (startD N_chance ds) := by
  rintro ds Q ⟨n, par, pr, ch, on, k, rfl, W, C, hs, hk, hQ⟩
  obtain ⟨m, m0, m1, m3⟩ := W.mom
  have hn9 := W.n9
  unfold b_chance
  lcg_off
  rw [enc11]
  refine ⟨fun t G => ∃ (j : Nat) (f : Rat) (e4 : EV), G = [.fz (treeD n par pr), .fz (.tup (rows n (klen n par) ch)), .fz (.int ((j : Nat) : Int)), .fz (encQ f), e4] ∧ j < n ∧ t = j ∧ f * on j = on k ∧ m j ≤ m k ∧ Sz (1 + 6 * (m k - m j)) f,
    ⟨k, k, 1, .un, rfl, hk, rfl, Rat.one_mul _, Nat.le_refl _, sz11.mono (by omega)⟩, ?_⟩
  rintro t G ⟨j, f, e4, rfl, hj, ht, hf, hm, hz⟩
  lcg_off
  rw [show (0 : Int) = ((0 : Nat) : Int) from rfl, eqv_int]
  refine ⟨rfl, rfl, ?_⟩
  by_cases h0 : j = 0
  · subst h0
    simp only [decide_true, Bool.true_eq_false, if_false]
    rw [C.o0, Rat.mul_one] at hf
    rw [hf]; exact hQ
  · rw [decide_eq_false (by omega)]
    simp only [if_true]
    have hp := W.up j (by omega) hj
    have hpn : par j < n := by omega
    have hix := ixOf_lt (par := par) h0 hj
    have hsz := hs (par j) hpn _ hix
    have hmj := m1 j (by omega) hj
    have h3 := m3 k hk
    have hnode : ∀ Q, atD (nodesD n par pr) ((j : Nat) : Int) Q = Q (nodeD par pr j) := atD_nodes hj
    have e : nodeD par pr j = .tup [.int ((par j : Nat) : Int), .tup [encQ (pr j)]] := by unfold nodeD backD; rw [if_neg h0]
    have ee : treeD n par pr = .tup [.str "tree", .tup [.str "coin"], .tup (nodesD n par pr)] := rfl
    rw [ee, show (((0 : Nat)) : Int) = 0 from rfl]
    dsimp only
    rw [atT2]
    dsimp only
    rw [hnode, e]
    dsimp only
    rw [atD0]
    dsimp only
    rw [atD_rows hpn]
    dsimp only
    refine ⟨n, par, pr, par j, rfl, by omega, ?_⟩
    dsimp only
    rw [intsOf_nats]
    dsimp only
    refine ⟨List.mem_map.mpr ⟨j, mem_kids.mpr ⟨hj, h0, rfl⟩, rfl⟩, ?_⟩
    have hix' : List.idxOf j (kids n par (par j)) < klen n par (par j) := hix
    rw [idxOf_cast, atD_vec hix']
    refine ⟨_, _, 1 + 6 * (m k - m j), 6, rfl, hz, hsz, by omega, ?_⟩
    refine ⟨par j, by omega, par j, _, _, rfl, hpn, rfl, ?_, by omega, (hz.mul hsz).mono (by omega)⟩
    rw [← hf, C.up j (by omega) hj]
    show f * ch (par j) (ixOf n par j) * on (par j) = _
    grind
def fMean : FS := fun ds Q => ∃ (n : Nat) (par : Nat → Nat) (pr : Nat → Rat) (ch : Nat → Nat → Rat) (on : Nat → Rat) (d : D) (row : Nat → Rat), ds = [treeD n par pr, .tup (rows n (klen n par) ch), d] ∧ isV d n row ∧ WT n par ∧ Cond n par ch on ∧ (∀ k, k < n → ∀ i, i < klen n par k → Sz 6 (ch k i)) ∧ (∀ i, i < n → Sz 2 (row i)) ∧ Q (encQ (sm n fun i => row i * on i))
theorem p_mean : ∀ ds Q, fMean ds Q → b_mean fTotal (fBin (· * ·)) fChance { nx := fun _ => Q .non, rt := Q } (startD N_mean ds) := by
  rintro ds Q ⟨n, par, pr, ch, on, d, row, rfl, hd, W, C, hs, hr, hQ⟩
  have hn9 := W.n9
  have main : compD [.fz (treeD n par pr), .fz (.tup (rows n (klen n par) ch)), .fz d, .un] (gNm 3) mYes (mCall (fBin (· * ·)) (mCons (mIx (mSq (mVar 2)) (mVar 3)) (mCons (mCall fChance (mCons (mVar 0) (mCons (mVar 1) (mCons (mVar 3) mNil)))) mNil))) (ixs n) [] fun ds => fTotal [.lst ds] Q := by
    refine compD_map (fun x => encQ (row (nOf x) * on (nOf x))) _ _ _ (fun x hx k hk => ?_) ?_
    · obtain ⟨i, hi, rfl⟩ := mem_ixs hx
      rw [nOf_int] at hk
      rcases hd with rfl | rfl
      all_goals
        lcg_off
        rw [atD_vec hi]
        refine ⟨n, par, pr, ch, on, i, rfl, W, C, hs, hi, ?_⟩
        exact ⟨_, _, 2, 19, rfl, hr i hi, on_sz W C hs i hi, by decide, hk⟩
    · have hz : n * (21 + 1) ≤ 9 * 22 := Nat.mul_le_mul_right _ hn9
      refine ⟨_, (List.range n).map (fun i => row i * on i), 21, rfl, .inl ?_, fun q hq => ?_, by rw [List.length_map, List.length_range]; omega, ?_⟩
      · rw [List.nil_append, ixs_map n fun i => encQ (row i * on i)]
        exact congrArg D.lst (vec_encL n _)
      · obtain ⟨i, hi, rfl⟩ := List.mem_map.mp hq
        exact (hr i (List.mem_range.mp hi)).mul (on_sz W C hs i (List.mem_range.mp hi))
      · rw [sumQ_range]; exact hQ
  unfold b_mean
  rcases hd with rfl | rfl
  all_goals
    lcg_off
    rw [vec_length, Int.toNat_natCast]
    exact ⟨by omega, by omega, by rw [List.length_map, List.length_range]; omega, main⟩
theorem sumQ_lsm (f : Nat → Rat) (L : List Nat) : sumQ (L.map f) = lsm L f := by
  have : ∀ (L : List Nat) (a : Rat), (L.map f).foldl (· + ·) a = a + lsm L f := by
    intro L
    induction L with
    | nil => intro a; show a = a + 0; grind
    | cons k L ih => intro a; rw [List.map_cons, List.foldl_cons, ih, lsm]; grind
  unfold sumQ
  rw [this]; grind
def fShareOf : FS := fun ds Q => ∃ (n : Nat) (par : Nat → Nat) (pr : Nat → Rat) (ch : Nat → Nat → Rat) (on : Nat → Rat) (L : List Nat), ds = [treeD n par pr, .tup (rows n (klen n par) ch), .lst (natsD L)] ∧ (∀ i ∈ L, i < n) ∧ L.length ≤ 100 ∧ WT n par ∧ Cond n par ch on ∧ (∀ k, k < n → ∀ i, i < klen n par k → Sz 6 (ch k i)) ∧ Q (encQ (lsm L on))
theorem p_share_of : ∀ ds Q, fShareOf ds Q → b_share_of fTotal fChance { nx := fun _ => Q .non, rt := Q } (startD N_share_of ds) := by
  rintro ds Q ⟨n, par, pr, ch, on, L, rfl, hL, hl, W, C, hs, hQ⟩
  unfold b_share_of
  lcg_off
  refine ⟨by rw [natsD_len]; omega, ?_⟩
  refine compD_map (fun x => encQ (on (nOf x))) _ _ _ (fun x hx k hk => ?_) ?_
  · obtain ⟨i, hi, rfl⟩ := List.mem_map.mp hx
    rw [nOf_int] at hk
    lcg_off
    exact ⟨n, par, pr, ch, on, i, rfl, W, C, hs, hL i hi, hk⟩
  · refine ⟨_, L.map on, 19, rfl, .inl ?_, fun q hq => ?_, by rw [List.length_map]; omega, ?_⟩
    · rw [List.nil_append]
      unfold natsD encL
      rw [List.map_map, List.map_map]; rfl
    · obtain ⟨i, hi, rfl⟩ := List.mem_map.mp hq
      exact on_sz W C hs i (hL i hi)
    · rw [sumQ_lsm]; exact hQ
def fTilt : FS := fun ds Q => ∃ (d : D) (n : Nat) (len : Nat → Nat) (ch w : Nat → Nat → Rat), ds = [d, .tup (rows n len ch), .tup (rows n len w)] ∧ n ≤ 100 ∧ (∀ k, k < n → len k ≤ 100) ∧ (∀ k, k < n → ∀ i, i < len k → Sz 6 (ch k i) ∧ ch k i ≠ 0 ∧ Sz 6 (w k i)) ∧ Q (.tup (rows n len fun k i => w k i / ch k i))
theorem rows_succ (k : Nat) (len : Nat → Nat) (f : Nat → Nat → Rat) : rows (k + 1) len f = rows k len f ++ [.tup (vec (len k) (f k))] := by
  unfold rows
  rw [List.range_succ, List.map_append]; rfl
def tiltBody : SD := (mApp 3 (mTupO (mSq (mFz (mLc [5] (mRange1 (mCons (mLen (mSq (mIx (mSq (mVar 1)) (mVar 4)))) mNil)) (gNm 5) mYes (mCall fOver (mCons (mIx (mSq (mIx (mSq (mVar 2)) (mVar 4))) (mVar 5)) (mCons (mIx (mSq (mIx (mSq (mVar 1)) (mVar 4))) (mVar 5)) mNil))))))))
theorem tilt_loop {al : List D} {De : EndsD} {d : D} {p : Addr} {n : Nat} {len : Nat → Nat} {ch w : Nat → Nat → Rat} (hn : n ≤ 100) (hl : ∀ k, k < n → len k ≤ 100) (hs : ∀ k, k < n → ∀ i, i < len k → Sz 6 (ch k i) ∧ ch k i ≠ 0 ∧ Sz 6 (w k i)) :
    ∀ (r k : Nat) (e4 : EV), k + r = n → (∀ e4, De.nx [.fz d, .fz (.tup (rows n len ch)), .fz (.tup (rows n len w)), .ow p (.lst (rows n len fun k i => w k i / ch k i)), e4, .un]) →
    forD none al (gNm 4) tiltBody De ((List.range' k r).map fun i => D.int ((i : Nat) : Int)) [.fz d, .fz (.tup (rows n len ch)), .fz (.tup (rows n len w)), .ow p (.lst (rows k len fun k i => w k i / ch k i)), e4, .un]
  | 0, k, e4, hk, hQ => by
    have : k = n := by omega
    subst this
    exact ⟨trivial, hQ _⟩
  | r + 1, k, e4, hk, hQ => by
    have hk' : k < n := by omega
    have hlk := hl k hk'
    rw [List.range'_succ, List.map_cons]
    refine ⟨trivial, ?_⟩
    have ih := fun e4 => tilt_loop (al := al) (De := De) (d := d) (p := p) hn hl hs r (k + 1) e4 (by omega) hQ
    unfold tiltBody
    lcg_off
    rw [atD_rows hk']
    dsimp only
    rw [vec_length, Int.toNat_natCast]
    refine ⟨by omega, by omega, by rw [List.length_map, List.length_range]; omega, ?_⟩
    refine compD_map (fun x => encQ (w k (nOf x) / ch k (nOf x))) (ixs (len k)) _ _ (fun x hx q hq => ?_) ?_
    · obtain ⟨i, hi, rfl⟩ := mem_ixs hx
      rw [nOf_int] at hq
      obtain ⟨h1, h2, h3⟩ := hs k hk' i hi
      lcg_off
      rw [atD_rows hk']
      dsimp only
      rw [atD_vec hi, atD_rows hk']
      dsimp only
      rw [atD_vec hi]
      exact ⟨_, _, 6, 6, rfl, h2, h3, h1, by decide, hq⟩
    · rw [List.nil_append, ixs_map (len k) fun i => encQ (w k i / ch k i)]
      refine ⟨by rw [rows_len]; omega, ?_⟩
      have := ih (.fz (.int ((k : Nat) : Int)))
      rw [rows_succ] at this
      exact this
theorem p_tilted : ∀ ds Q, fTilt ds Q → b_tilted fOver { nx := fun _ => Q .non, rt := Q } (startD N_tilted ds) := by
  rintro ds Q ⟨d, n, len, ch, w, rfl, hn, hl, hs, hQ⟩
  unfold b_tilted
  lcg_off
  refine ⟨by decide, fun p => ?_⟩
  rw [rows_len, Int.toNat_natCast, List.range_eq_range']
  refine ⟨by omega, by omega, tilt_loop hn hl hs n 0 .un (by omega) fun e4 => ?_⟩
  lcg_off
  exact hQ
end DL
set_option Elab.async false
set_option linter.all false
set_option autoImplicit false
set_option maxRecDepth 100000
namespace DL
open PySem PySem.Spec
open PyProof.Rows hiding St
open L2
local macro_rules | `(tactic| lcg_off) => `(tactic| simp only [mVar, mC, mNil, mCons, mTup, mTupF, mLst, mFz, mOp, oI0, oI, oEq, oNe, oIsN, oNotN, oIsB, oIsNotB, oCatT, oCatL, oRepT, mRepL, mIx, mSq, mOwn, mTst, mAnd, mOr, mNot, mAndV, mOrV, mNotV, mIf, mNeg, mCall, mCB, cAbs, cInt, mLen, mTupO, mLstO, mLrg1, mSum, mAny, mAll, mIndex, mNoP, mPart, mSlT, mSlL, mIsi, mDGet, mDisp, mPairs, mWeak, mSeqI, mRange1, mRange2, mYes, gNm, gTupD, gConsD, gNilD, mLc, mNext, mSeq, mBreak, mCont, mAsg, mSet, mSetOw, mPar, mPar3, mParO, mParO1, mParOO, mDrop, mRet, mRetN, mIfS, mGive, mApp, mSetIx, mIns, mRem, isOw, onOw, mEqQ, mNeQ, mNewT, mPutT, onDt, mGetT, mFor, startD, List.map_cons, List.map_nil, List.length_cons, List.length_nil, List.cons_append, List.nil_append, List.getElem?_cons_zero, List.getElem?_cons_succ, List.set_cons_zero, List.set_cons_succ, List.replicate_succ, List.replicate_zero, Nat.reduceAdd, Nat.reduceSub, Nat.zero_add, Nat.sub_self, decide_eq_true_eq, Bool.not_eq_true, Bool.not_eq_eq_eq_not, if_true, if_false, ite_true, ite_false, Bool.false_eq_true, noOw, wipeD, List.all_cons, List.all_nil, Bool.and_true, true_and, and_true, D.isNon, Bool.not_true, Bool.not_false])
/-! ## are_chances -/
def goodC (n : Nat) (par : Nat → Nat) (qs : Nat → List Rat) (k : Nat) : Prop := (qs k).length = klen n par k ∧ (∀ q ∈ qs k, 0 < q) ∧ (kids n par k ≠ [] → sumQ (qs k) = 1)
def rowsL (n : Nat) (qs : Nat → List Rat) : List D := (List.range n).map fun k => .tup (encL (qs k))
theorem rowsL_len (n : Nat) (qs : Nat → List Rat) : (rowsL n qs).length = n := by simp [rowsL]
theorem atD_rowsL {n i : Nat} {qs : Nat → List Rat} (h : i < n) (Q : D → Prop) : atD (rowsL n qs) ((i : Nat) : Int) Q = Q (.tup (encL (qs i))) := by
  refine atD_get ?_ Q
  unfold rowsL
  rw [List.getElem?_map, List.getElem?_range h]; rfl
def fChs : FS := fun ds Q => ∃ (n : Nat) (par : Nat → Nat) (pr : Nat → Rat) (d : D), ds = [treeD n par pr, d] ∧ n ≤ 9 ∧ ((d = .non ∧ Q (.bl false)) ∨ (∃ xs, d = .tup xs ∧ xs.length ≠ n ∧ Q (.bl false)) ∨
  ∃ qs : Nat → List Rat, d = .tup (rowsL n qs) ∧ (∀ k, k < n → (qs k).length ≤ 10 ∧ ∀ q ∈ qs k, Sz 6 q) ∧ ∀ r : Bool, (r = true ↔ ∀ k, k < n → goodC n par qs k) → Q (.bl r))
def leD : D → D
  | .tup (.int a :: _) => .bl (decide (a ≤ 0))
  | _ => .non
theorem le_dec0 (q : Rat) : decide (q.num ≤ 0) = decide (q ≤ 0) := by
  rw [decide_eq_decide]
  have := Rat.num_nonneg (q := -q)
  rw [Rat.neg_num] at this
  constructor
  · intro h; have := this.mp (by omega); grind
  · intro h; have := this.mpr (by grind); omega
def chsBody : SD := (mSeq (mIfS (mOr (mNot (mTst (mCall fAreParts (mCons (mIx (mSq (mVar 1)) (mVar 2)) (mCons (mLen (mSq (mCall fAhead (mCons (mVar 0) (mCons (mVar 2) mNil))))) mNil))))) (mTst (mAny (mSq (mFz (mLc [3] (mSeqI (mSq (mIx (mSq (mVar 1)) (mVar 2)))) (gNm 3) mYes (mOp (oI0 fun i j => .bl (decide (i ≤ j))) (mIx (mSq (mVar 3)) (mC (.int 0))) (mC (.int 0))))))))) (mRet (mC (.bl false))) mNext) (mIfS (mAnd (mNot (mTst (mCall fLast (mCons (mVar 0) (mCons (mVar 2) mNil))))) (mTst (mOp oNe (mCall fTotal (mCons (mIx (mSq (mVar 1)) (mVar 2)) mNil)) (mC (.tup [.int 1, .int 1]))))) (mRet (mC (.bl false))) mNext))
theorem chs_loop {al : List D} {De : EndsD} {Q : D → Prop} {n : Nat} {par : Nat → Nat} {pr : Nat → Rat} {qs : Nat → List Rat} (hn : n ≤ 9) (hs : ∀ k, k < n → (qs k).length ≤ 10 ∧ ∀ q ∈ qs k, Sz 6 q) (hQ : ∀ r : Bool, (r = true ↔ ∀ k, k < n → goodC n par qs k) → Q (.bl r)) (hrt : De.rt = Q) :
    ∀ (r k : Nat) (e2 : EV), k + r = n → (∀ j, j < k → goodC n par qs j) → (∀ e2, Q (.bl true) → De.nx [.fz (treeD n par pr), .fz (.tup (rowsL n qs)), e2, .un]) →
    forD none al (gNm 2) chsBody De ((List.range' k r).map fun i => D.int ((i : Nat) : Int)) [.fz (treeD n par pr), .fz (.tup (rowsL n qs)), e2, .un]
  | 0, k, e2, hk, hg, hx => by
    have : k = n := by omega
    subst this
    exact ⟨trivial, hx _ (hQ true ⟨fun _ => hg, fun _ => rfl⟩)⟩
  | r + 1, k, e2, hk, hg, hx => by
    have hk' : k < n := by omega
    rw [List.range'_succ, List.map_cons]
    refine ⟨trivial, ?_⟩
    have ih := fun e2 hgk => chs_loop (al := al) hn hs hQ hrt r (k + 1) e2 (by omega) hgk hx
    have bad : ¬ goodC n par qs k → De.rt (.bl false) := fun z => by
      rw [hrt]
      exact hQ false ⟨(fun y => by cases y), fun y => absurd (y k hk') z⟩
    obtain ⟨hl, hz⟩ := hs k hk'
    have el : (encL (qs k)).length = (qs k).length := List.length_map _
    unfold chsBody
    lcg_off
    rw [atD_rowsL hk']
    refine ⟨n, par, pr, k, rfl, by omega, ?_⟩
    dsimp only
    rw [natsD_len]
    refine ⟨(klen n par k : Int), .inr ⟨qs k, rfl, by omega, ?_⟩⟩
    by_cases h1 : (qs k).length = klen n par k
    · rw [decide_eq_true (show (((qs k).length : Nat) : Int) = (klen n par k : Int) by omega)]
      simp only [Bool.true_eq_false, if_false]
      rw [atD_rowsL hk']
      dsimp only
      refine ⟨by omega, ?_⟩
      refine compD_map leD _ _ _ (fun x hx q hq => ?_) ?_
      · obtain ⟨y, hy, rfl⟩ := List.mem_map.mp hx
        unfold encQ at hq ⊢
        lcg_off
        rw [atD0]
        exact hq
      · have e : (encL (qs k)).map leD = ((qs k).map fun q => decide (q ≤ 0)).map D.bl := by
          unfold encL
          rw [List.map_map, List.map_map]
          refine List.map_congr_left fun q _ => ?_
          show D.bl (decide (q.num ≤ 0)) = D.bl (decide (q ≤ 0))
          rw [le_dec0]
        rw [List.nil_append, e, blsOf_map]
        dsimp only
        by_cases h2 : ((qs k).map fun q => decide (q ≤ 0)).any id = true
        · rw [if_pos h2]
          refine bad fun z => ?_
          rw [List.any_eq_true] at h2
          obtain ⟨b, hb, hb2⟩ := h2
          obtain ⟨q, hq, rfl⟩ := List.mem_map.mp hb
          have h5 := z.2.1 q hq
          simp at hb2
          grind
        · rw [if_neg h2]
          have hpos : ∀ q ∈ qs k, 0 < q := fun q hq => by
            rw [List.any_eq_true] at h2
            apply Classical.byContradiction
            intro z
            exact h2 ⟨_, List.mem_map.mpr ⟨q, hq, rfl⟩, by simp; grind⟩
          refine ⟨n, par, pr, k, rfl, by omega, ?_⟩
          by_cases h3 : kids n par k = []
          · rw [decide_eq_true h3]
            simp only [Bool.true_eq_false, if_false]
            refine ih _ fun j hj => ?_
            by_cases e : j = k
            · subst e; exact ⟨h1, hpos, fun z => absurd h3 z⟩
            · exact hg j (by omega)
          · rw [decide_eq_false h3]
            simp only [if_true]
            rw [atD_rowsL hk']
            refine ⟨_, qs k, 6, rfl, .inr rfl, hz, by omega, ?_⟩
            dsimp only
            rw [enc11, eqv_enc]
            refine ⟨rfl, rfl, ?_⟩
            by_cases h4 : sumQ (qs k) = 1
            · rw [decide_eq_true h4]
              simp only [Bool.true_eq_false, if_false]
              refine ih _ fun j hj => ?_
              by_cases e : j = k
              · subst e; exact ⟨h1, hpos, fun _ => h4⟩
              · exact hg j (by omega)
            · rw [decide_eq_false h4]
              simp only [if_true]
              exact bad fun z => h4 (z.2.2 h3)
    · rw [decide_eq_false (show ¬ (((qs k).length : Nat) : Int) = (klen n par k : Int) by omega)]
      simp only [if_true]
      exact bad fun z => h1 z.1
theorem p_are_chances : ∀ ds Q, fChs ds Q → b_are_chances fAreParts fAhead fLast fTotal { nx := fun _ => Q .non, rt := Q } (startD N_are_chances ds) := by
  rintro ds Q ⟨n, par, pr, d, rfl, hn, ⟨rfl, hQ⟩ | ⟨xs, rfl, hl, hQ⟩ | ⟨qs, rfl, hs, hQ⟩⟩
  · unfold b_are_chances
    lcg_off
    rw [isi_non]
    exact hQ
  · unfold b_are_chances
    have ee : treeD n par pr = .tup [.str "tree", .tup [.str "coin"], .tup (nodesD n par pr)] := rfl
    lcg_off
    rw [isi_tup, ee]
    simp only [Bool.true_eq_false, if_false]
    rw [atT2]
    dsimp only
    rw [nodesD_len, eqv_int, decide_eq_false (by omega)]
    exact ⟨rfl, rfl, hQ⟩
  · unfold b_are_chances
    have ee : treeD n par pr = .tup [.str "tree", .tup [.str "coin"], .tup (nodesD n par pr)] := rfl
    have main := chs_loop (al := ixs n) (De := { nx := mRet (mC (D.bl true)) { nx := fun x => Q .non, rt := Q }, rt := Q }) (Q := Q) (pr := pr) hn hs hQ rfl n 0 .un (by omega) (fun j h => by omega) (fun e2 h => by lcg_off; exact h)
    rw [← List.range_eq_range', ee] at main
    lcg_off
    rw [isi_tup, ee]
    simp only [Bool.true_eq_false, if_false]
    rw [atT2]
    dsimp only
    rw [nodesD_len, rowsL_len, eqv_int, decide_eq_true rfl, Int.toNat_natCast]
    simp only [Bool.true_eq_false, if_false]
    exact ⟨rfl, rfl, by omega, by omega, main⟩
end DL
set_option Elab.async false
set_option linter.all false
set_option autoImplicit false
set_option maxRecDepth 100000
namespace DL
open PySem PySem.Spec
open PyProof.Rows hiding St
open L2
local macro_rules | `(tactic| lcg_off) => `(tactic| simp only [mVar, mC, mNil, mCons, mTup, mTupF, mLst, mFz, mOp, oI0, oI, oEq, oNe, oIsN, oNotN, oIsB, oIsNotB, oCatT, oCatL, oRepT, mRepL, mIx, mSq, mOwn, mTst, mAnd, mOr, mNot, mAndV, mOrV, mNotV, mIf, mNeg, mCall, mCB, cAbs, cInt, mLen, mTupO, mLstO, mLrg1, mSum, mAny, mAll, mIndex, mNoP, mPart, mSlT, mSlL, mIsi, mDGet, mDisp, mPairs, mWeak, mSeqI, mRange1, mRange2, mYes, gNm, gTupD, gConsD, gNilD, mLc, mNext, mSeq, mBreak, mCont, mAsg, mSet, mSetOw, mPar, mPar3, mParO, mParO1, mParOO, mDrop, mRet, mRetN, mIfS, mGive, mApp, mSetIx, mIns, mRem, isOw, onOw, mEqQ, mNeQ, mNewT, mPutT, onDt, mGetT, mFor, startD, List.map_cons, List.map_nil, List.length_cons, List.length_nil, List.cons_append, List.nil_append, List.getElem?_cons_zero, List.getElem?_cons_succ, List.set_cons_zero, List.set_cons_succ, List.replicate_succ, List.replicate_zero, Nat.reduceAdd, Nat.reduceSub, Nat.zero_add, Nat.sub_self, decide_eq_true_eq, Bool.not_eq_true, Bool.not_eq_eq_eq_not, if_true, if_false, ite_true, ite_false, Bool.false_eq_true, noOw, wipeD, List.all_cons, List.all_nil, Bool.and_true, true_and, and_true, D.isNon, Bool.not_true, Bool.not_false])
/-! ## greatest costs -/
def mostL : List Rat → Rat
  | [] => 0
  | q :: qs => mostF q (q :: qs)
def GEq (n : Nat) (par : Nat → Nat) (row G : Nat → Rat) : Prop := ∀ k, k < n → G k = row k + mostL ((kids n par k).map G)
theorem mostL_P {P : Rat → Prop} (h0 : P 0) {qs : List Rat} (h : ∀ q ∈ qs, P q) : P (mostL qs) := by
  cases qs with
  | nil => exact h0
  | cons q qs =>
    show P (mostF q (q :: qs))
    rcases mostF_mem (q :: qs) q with e | e
    · rw [e]; exact h _ List.mem_cons_self
    · exact h _ e
theorem G_sz {n : Nat} {par : Nat → Nat} {row G : Nat → Rat} (W : WT n par) (E : GEq n par row G) (hr : ∀ i, i < n → Sz 2 (row i)) : ∀ j, j < n → Sz 13 (G j) := by
  obtain ⟨m, m0, m1, m3⟩ := W.mom
  have : ∀ N j, 3 - m j < N → j < n → Sz (4 + 3 * (3 - m j)) (G j) := by
    intro N
    induction N with
    | zero => intro j h; omega
    | succ N ih =>
      intro j hj hn
      rw [E j hn]
      have hs : Sz (1 + 3 * (3 - m j)) (mostL ((kids n par j).map G)) := by
        refine mostL_P (P := Sz (1 + 3 * (3 - m j))) (sz01.mono (by omega)) fun q hq => ?_
        obtain ⟨i, hi, rfl⟩ := List.mem_map.mp hq
        obtain ⟨h1, h2, h3⟩ := mem_kids.mp hi
        have e := m1 i (by omega) h1
        have e3 := m3 i h1
        rw [h3] at e
        exact (ih i (by omega) h1).mono (by omega)
      exact ((hr j hn).add hs).mono (by omega)
  intro j hj
  exact (this (3 - m j + 1) j (by omega) hj).mono (by omega)
def fGF (t : Nat) : FS := fun ds Q => ∃ (n : Nat) (par : Nat → Nat) (pr row G : Nat → Rat) (k : Nat), ds = [treeD n par pr, .tup (vec n row), .int ((k : Nat) : Int)] ∧ WT n par ∧ GEq n par row G ∧ (∀ i, i < n → Sz 2 (row i)) ∧ k < n ∧ n ≤ k + t ∧ Q (encQ (G k))
theorem gf_loop {al : List D} {De : EndsD} {E0 E1 E2 E3 E4 : EV} {n : Nat} (hz : n + n ≤ 8000) : ∀ (qs : List Rat) (f : Rat) (e : EV), (∀ q ∈ qs, Sz n q) → Sz n f → (∀ e, De.nx [E0, E1, E2, E3, E4, .fz (encQ (mostF f qs)), e]) →
    forD none al (gNm 6) (mSet 5 (mIf (mTst (mCall fLess (mCons (mVar 5) (mCons (mVar 6) mNil)))) (mVar 6) (mVar 5))) De (encL qs) [E0, E1, E2, E3, E4, .fz (encQ f), e]
  | [], f, e, _, _, hQ => ⟨trivial, hQ e⟩
  | q :: qs, f, e, hs, hf, hQ => by
    simp only [encL, List.map_cons, forD, guardD, gNm]
    lcg_off
    refine ⟨f, q, n, n, rfl, hf, hs q List.mem_cons_self, hz, ?_⟩
    have hQ : ∀ e, De.nx [E0, E1, E2, E3, E4, .fz (encQ (mostF (if f < q then q else f) qs)), e] := hQ
    by_cases h : f < q
    · simp only [h, decide_true, if_true] at hQ ⊢
      exact gf_loop hz qs q _ (fun x hx => hs x (List.mem_cons_of_mem _ hx)) (hs q List.mem_cons_self) hQ
    · simp only [h, decide_false, if_false, Bool.false_eq_true] at hQ ⊢
      exact gf_loop hz qs f _ (fun x hx => hs x (List.mem_cons_of_mem _ hx)) hf hQ
theorem nats_map (L : List Nat) (f : Nat → Rat) : (natsD L).map (fun x => encQ (f (nOf x))) = encL (L.map f) := by
  unfold natsD encL
  rw [List.map_map, List.map_map]; rfl
theorem p_greatest_from (t : Nat) : ∀ ds Q, fGF (t + 1) ds Q → b_greatest_from fAhead (fGF t) fLess (fBin (· + ·)) { nx := fun _ => Q .non, rt := Q } (startD N_greatest_from ds) := by
  rintro ds Q ⟨n, par, pr, row, G, k, rfl, W, E, hr, hk, ht, hQ⟩
  have hn9 := W.n9
  have hkl := kids_len n par k
  have gs := G_sz W E hr
  unfold b_greatest_from
  lcg_off
  refine ⟨n, par, pr, k, rfl, by omega, ?_⟩
  dsimp only
  refine ⟨by rw [natsD_len]; omega, ?_⟩
  refine compD_map (fun x => encQ (G (nOf x))) _ _ _ (fun x hx q hq => ?_) ?_
  · obtain ⟨j, hj, rfl⟩ := List.mem_map.mp hx
    rw [nOf_int] at hq
    obtain ⟨h1, h2, h3⟩ := mem_kids.mp hj
    have := W.up j (by omega) h1
    lcg_off
    exact ⟨n, par, pr, row, G, j, rfl, W, E, hr, h1, by omega, hq⟩
  · rw [List.nil_append, nats_map]
    have hgk : ∀ q ∈ (kids n par k).map G, Sz 13 q := fun q hq => by
      obtain ⟨j, hj, rfl⟩ := List.mem_map.mp hq
      exact gs j (mem_kids.mp hj).1
    have hEk := E k hk
    have fin : ∀ b e5 e6, Sz 13 b → mostL ((kids n par k).map G) = b → mRet (mCall (fBin (· + ·)) (mCons (mIx (mSq (mVar 1)) (mVar 2)) (mCons (mVar 5) mNil))) { nx := fun _ => Q .non, rt := Q } [.fz (treeD n par pr), .fz (.tup (vec n row)), .fz (.int ((k : Nat) : Int)), e5, .un, .fz (encQ b), e6] := by
      intro b e5 e6 hb hm
      lcg_off
      rw [atD_vec hk]
      refine ⟨_, _, 2, 13, rfl, hr k hk, hb, by decide, ?_⟩
      dsimp only
      rw [← hm, ← hEk]; exact hQ
    generalize (kids n par k).map G = L at hgk fin
    cases L with
    | nil =>
      refine ⟨by decide, rfl, rfl, ?_⟩
      rw [show D.eqv (.lst (encL [])) (.lst []) = true from rfl]
      simp only [if_true]
      refine ⟨by decide, ?_⟩
      exact ⟨trivial, fin 0 _ _ (sz01.mono (by decide)) rfl⟩
    | cons q L =>
      have hpl : D.pl 60 (.lst (encL (q :: L))) = true := by
        show (encL (q :: L)).all (D.pl 59) = true
        rw [List.all_eq_true]
        intro x hx
        obtain ⟨i, _, rfl⟩ := List.mem_map.mp hx
        rfl
      refine ⟨by decide, hpl, rfl, ?_⟩
      rw [show D.eqv (.lst (encL (q :: L))) (.lst []) = false from rfl]
      simp only [Bool.false_eq_true, if_false]
      rw [show atD (encL (q :: L)) 0 = fun Q' => Q' (encQ q) from funext fun Q' => atD_get (i := 0) rfl Q']
      dsimp only
      refine gf_loop (n := 13) (by decide) (q :: L) q _ hgk (hgk q List.mem_cons_self) fun e6 => fin _ _ _ ?_ rfl
      exact mostL_P (P := Sz 13) (sz01.mono (by decide)) hgk
def fGC : FS := fun ds Q => ∃ (n : Nat) (par : Nat → Nat) (pr row G : Nat → Rat), ds = [treeD n par pr, .tup (vec n row)] ∧ WT n par ∧ GEq n par row G ∧ (∀ i, i < n → Sz 2 (row i)) ∧ Q (encQ (G 0))
theorem p_greatest_cost : ∀ ds Q, fGC ds Q → b_greatest_cost (fGF 9) { nx := fun _ => Q .non, rt := Q } (startD N_greatest_cost ds) := by
  rintro ds Q ⟨n, par, pr, row, G, rfl, W, E, hr, hQ⟩
  unfold b_greatest_cost
  lcg_off
  exact ⟨n, par, pr, row, G, 0, rfl, W, E, hr, W.n0, by have := W.n9; omega, hQ⟩
end DL
set_option Elab.async false
set_option linter.all false
set_option autoImplicit false
set_option maxRecDepth 100000
namespace DL
open PySem PySem.Spec
open PyProof.Rows hiding St
open L2
local macro_rules | `(tactic| lcg_off) => `(tactic| simp only [mVar, mC, mNil, mCons, mTup, mTupF, mLst, mFz, mOp, oI0, oI, oEq, oNe, oIsN, oNotN, oIsB, oIsNotB, oCatT, oCatL, oRepT, mRepL, mIx, mSq, mOwn, mTst, mAnd, mOr, mNot, mAndV, mOrV, mNotV, mIf, mNeg, mCall, mCB, cAbs, cInt, mLen, mTupO, mLstO, mLrg1, mSum, mAny, mAll, mIndex, mNoP, mPart, mSlT, mSlL, mIsi, mDGet, mDisp, mPairs, mWeak, mSeqI, mRange1, mRange2, mYes, gNm, gTupD, gConsD, gNilD, mLc, mNext, mSeq, mBreak, mCont, mAsg, mSet, mSetOw, mPar, mPar3, mParO, mParO1, mParOO, mDrop, mRet, mRetN, mIfS, mGive, mApp, mSetIx, mIns, mRem, isOw, onOw, mEqQ, mNeQ, mNewT, mPutT, onDt, mGetT, mFor, startD, List.map_cons, List.map_nil, List.length_cons, List.length_nil, List.cons_append, List.nil_append, List.getElem?_cons_zero, List.getElem?_cons_succ, List.set_cons_zero, List.set_cons_succ, List.replicate_succ, List.replicate_zero, Nat.reduceAdd, Nat.reduceSub, Nat.zero_add, Nat.sub_self, decide_eq_true_eq, Bool.not_eq_true, Bool.not_eq_eq_eq_not, if_true, if_false, ite_true, ite_false, Bool.false_eq_true, noOw, wipeD, List.all_cons, List.all_nil, Bool.and_true, true_and, and_true, D.isNon, Bool.not_true, Bool.not_false])
/-! ## worst costs -/
def fl (n : Nat) (g : Nat → D) : List D := (List.range n).map g
theorem fl_len (n : Nat) (g : Nat → D) : (fl n g).length = n := by simp [fl]
theorem atD_fl {n i : Nat} {g : Nat → D} (h : i < n) (Q : D → Prop) : atD (fl n g) ((i : Nat) : Int) Q = Q (g i) := by
  refine atD_get ?_ Q
  unfold fl
  rw [List.getElem?_map, List.getElem?_range h]; rfl
def updD (g : Nat → D) (k : Nat) (d : D) : Nat → D := fun i => if i = k then d else g i
theorem fl_set {n k : Nat} (g : Nat → D) (d : D) : (fl n g).set k d = fl n (updD g k d) := by
  apply List.ext_getElem?
  intro i
  unfold fl
  rw [List.getElem?_set, List.length_map, List.length_range, List.getElem?_map, List.getElem?_map]
  by_cases hi : i < n
  · rw [List.getElem?_range hi]
    unfold updD
    by_cases e : k = i
    · subst e; simp [hi]
    · have e2 : ¬ i = k := fun z => e z.symm
      simp [e, e2]
  · rw [List.getElem?_eq_none (by simpa using hi)]
    by_cases e : k = i
    · subst e; simp [hi]
    · simp [e]
theorem fl_congr {n : Nat} {g h : Nat → D} (e : ∀ i, i < n → g i = h i) : fl n g = fl n h := List.map_congr_left fun i hi => e i (List.mem_range.mp hi)
theorem fl_vec (n : Nat) (v : Nat → Rat) : fl n (fun i => encQ (v i)) = vec n v := rfl
/-- the list half done from above: places from m on are done -/
def hlf (C : Nat → Rat) (m : Nat) : Nat → D := fun j => if m ≤ j then encQ (C j) else .non
theorem hlf_step (C : Nat → Rat) (n m : Nat) (d : D) : fl n (updD (updD (hlf C (m + 1)) m d) m (encQ (C m))) = fl n (hlf C m) := fl_congr fun i hi => by
  unfold updD hlf
  by_cases e : i = m
  · subst e; simp
  · by_cases e2 : m + 1 ≤ i
    · have : m ≤ i := by omega
      simp [e, e2, this]
    · have : ¬ m ≤ i := by omega
      simp [e, e2, this]
theorem hlf_step1 (C : Nat → Rat) (n m : Nat) : fl n (updD (hlf C (m + 1)) m (encQ (C m))) = fl n (hlf C m) := fl_congr fun i hi => by
  unfold updD hlf
  by_cases e : i = m
  · subst e; simp
  · by_cases e2 : m + 1 ≤ i
    · have : m ≤ i := by omega
      simp [e, e2, this]
    · have : ¬ m ≤ i := by omega
      simp [e, e2, this]
theorem hlf_at {C : Nat → Rat} {m j : Nat} (h : m ≤ j) : hlf C m j = encQ (C j) := by unfold hlf; rw [if_pos h]
theorem hlf_0 (n : Nat) (C : Nat → Rat) : fl n (hlf C 0) = vec n C := fl_congr fun i hi => hlf_at (Nat.zero_le _)
theorem hlf_n (n : Nat) (C : Nat → Rat) : fl n (hlf C n) = List.replicate n .non := by
  have : fl n (hlf C n) = fl n fun _ => .non := fl_congr fun i hi => by unfold hlf; rw [if_neg (by omega)]
  rw [this]
  unfold fl
  rw [List.map_const', List.length_range]
/-- n-1, n-2, .., 0 -/
def dwn (m : Nat) : List D := (List.range m).reverse.map fun i => D.int ((i : Nat) : Int)
theorem dwn_succ (m : Nat) : dwn (m + 1) = .int ((m : Nat) : Int) :: dwn m := by
  unfold dwn
  rw [List.range_succ, List.reverse_append]; rfl
theorem rng3_dwn (n : Nat) : ((List.range n).map fun m => D.int ((n : Int) - 1 + (m : Nat) * (-1))) = dwn n := by
  induction n with
  | zero => rfl
  | succ n ih =>
    rw [dwn_succ, List.range_succ_eq_map, List.map_cons, List.map_map, ← ih]
    congr 1
    · congr 1; omega
    · refine List.map_congr_left fun i _ => ?_
      show D.int _ = D.int _
      congr 1
      simp only [Nat.succ_eq_add_one]
      push_cast
      omega
theorem rgc_dwn {n : Nat} (h : n ≤ 100) : RgC ((n : Int) - 1) (-1) (-1) n := by
  have := RgC.neg (i := (n : Int) - 1) (j := -1) (by omega) (by omega) (by omega) (by omega)
  rw [show ((n : Int) - 1 - -1).toNat = n by omega] at this
  exact this
def kv (n : Nat) (par : Nat → Nat) (k : Nat) (C : Nat → Rat) : Nat → Rat := fun i => -C ((kids n par k).getD i 0)
def CEq (n : Nat) (par : Nat → Nat) (ch : Nat → Nat → Rat) (row : Nat → Rat) (s : Rat) (C : Nat → Rat) : Prop :=
  ∀ k, k < n → C k = if kids n par k = [] then row k else row k - wsh (ch k) (kv n par k C) s (klen n par k)
theorem encL_kv (n : Nat) (par : Nat → Nat) (k : Nat) (C : Nat → Rat) : encL ((kids n par k).map fun j => -C j) = vec (klen n par k) (kv n par k C) := by
  rw [encL_vec, List.length_map]
  unfold vec klen kv
  refine List.map_congr_left fun i hi => ?_
  have hi := List.mem_range.mp hi
  congr 1
  simp only [List.getD_eq_getElem?_getD]
  rw [List.getElem?_map, List.getElem?_eq_getElem hi]; rfl
def bnd : Nat → Nat
  | 0 => 2
  | h + 1 => 7 * bnd h + 39
theorem bnd_mono : ∀ {a b : Nat}, a ≤ b → bnd a ≤ bnd b
  | a, 0, h => by rw [Nat.le_zero.mp h]; exact Nat.le_refl _
  | a, b + 1, h => by
    rcases Nat.lt_or_ge a (b + 1) with z | z
    · have := bnd_mono (show a ≤ b by omega)
      show bnd a ≤ 7 * bnd b + 39
      omega
    · rw [show a = b + 1 by omega]; exact Nat.le_refl _
structure GoodCh (n : Nat) (par : Nat → Nat) (ch : Nat → Nat → Rat) : Prop where
  sz : ∀ k, k < n → ∀ i, i < klen n par k → Sz 6 (ch k i)
  pos : ∀ k, k < n → ∀ i, i < klen n par k → 0 < ch k i
  one : ∀ k, k < n → kids n par k ≠ [] → sm (klen n par k) (ch k) = 1
  k3 : ∀ k, k < n → klen n par k ≤ 3
theorem klen_pos {n : Nat} {par : Nat → Nat} {k : Nat} (h : kids n par k ≠ []) : 0 < klen n par k := List.length_pos_iff.mpr h
theorem kid_at {n : Nat} {par : Nat → Nat} {k i : Nat} (h : i < klen n par k) : (kids n par k).getD i 0 ∈ kids n par k := by
  rw [List.getD_eq_getElem?_getD, List.getElem?_eq_getElem h]
  exact List.getElem_mem h
end DL
set_option Elab.async false
set_option linter.all false
set_option autoImplicit false
set_option maxRecDepth 100000
namespace DL
open PySem PySem.Spec
open PyProof.Rows hiding St
open L2
local macro_rules | `(tactic| lcg_off) => `(tactic| simp only [mVar, mC, mNil, mCons, mTup, mTupF, mLst, mFz, mOp, oI0, oI, oEq, oNe, oIsN, oNotN, oIsB, oIsNotB, oCatT, oCatL, oRepT, mRepL, mIx, mSq, mOwn, mTst, mAnd, mOr, mNot, mAndV, mOrV, mNotV, mIf, mNeg, mCall, mCB, cAbs, cInt, mLen, mTupO, mLstO, mLrg1, mSum, mAny, mAll, mIndex, mNoP, mPart, mSlT, mSlL, mIsi, mDGet, mDisp, mPairs, mWeak, mSeqI, mRange1, mRange2, mYes, gNm, gTupD, gConsD, gNilD, mLc, mNext, mSeq, mBreak, mCont, mAsg, mSet, mSetOw, mPar, mPar3, mParO, mParO1, mParOO, mDrop, mRet, mRetN, mIfS, mGive, mApp, mSetIx, mIns, mRem, isOw, onOw, mEqQ, mNeQ, mNewT, mPutT, onDt, mGetT, mFor, startD, List.map_cons, List.map_nil, List.length_cons, List.length_nil, List.cons_append, List.nil_append, List.getElem?_cons_zero, List.getElem?_cons_succ, List.set_cons_zero, List.set_cons_succ, List.replicate_succ, List.replicate_zero, Nat.reduceAdd, Nat.reduceSub, Nat.zero_add, Nat.sub_self, decide_eq_true_eq, Bool.not_eq_true, Bool.not_eq_eq_eq_not, if_true, if_false, ite_true, ite_false, Bool.false_eq_true, noOw, wipeD, List.all_cons, List.all_nil, Bool.and_true, true_and, and_true, D.isNon, Bool.not_true, Bool.not_false])
theorem kv_sz {n : Nat} {par : Nat → Nat} {C : Nat → Rat} {m : Nat → Nat} (m1 : ∀ j, 0 < j → j < n → m j = m (par j) + 1) (m3 : ∀ j, j < n → m j ≤ 3) {k a : Nat} (h : ∀ j, j < n → k < n → m j = m k + 1 → Sz a (C j)) (hk : k < n) : ∀ i, i < klen n par k → Sz a (kv n par k C i) := by
  intro i hi
  obtain ⟨h1, h2, h3⟩ := mem_kids.mp (kid_at hi)
  have e := m1 _ (by omega) h1
  rw [h3] at e
  exact (h _ h1 hk e).neg
/-- the facts at a node with kids, for the sizes -/
theorem C_sz {n : Nat} {par : Nat → Nat} {ch : Nat → Nat → Rat} {row C : Nat → Rat} {s : Rat} {m : Nat → Nat} (m1 : ∀ j, 0 < j → j < n → m j = m (par j) + 1) (m3 : ∀ j, j < n → m j ≤ 3) (W : GoodCh n par ch) (E : CEq n par ch row s C) (hr : ∀ i, i < n → Sz 2 (row i)) (hs : Sz 10 s) (hs0 : 0 < s) (hs1 : s ≤ 1) :
    ∀ j, j < n → Sz (bnd (3 - m j)) (C j) := by
  have : ∀ N j, 3 - m j < N → j < n → Sz (bnd (3 - m j)) (C j) := by
    intro N
    induction N with
    | zero => intro j h; omega
    | succ N ih =>
      intro j hj hn
      rw [E j hn]
      by_cases h0 : kids n par j = []
      · rw [if_pos h0]
        exact (hr j hn).mono (bnd_mono (Nat.zero_le (3 - m j)))
      · rw [if_neg h0]
        have hl := klen_pos h0
        have hc := kid_at hl
        obtain ⟨h1, h2, h3⟩ := mem_kids.mp hc
        have e := m1 _ (by omega) h1
        have e3 := m3 _ h1
        rw [h3] at e
        obtain ⟨t, ht⟩ : ∃ t, 3 - m j = t + 1 := ⟨3 - m j - 1, by omega⟩
        have hkv : ∀ i, i < klen n par j → Sz (bnd t) (kv n par j C i) := kv_sz m1 m3 (fun i hi _ he => by
          have := ih i (by have := m3 i hi; omega) hi
          rwa [show 3 - m i = t by omega] at this) hn
        have k3 := W.k3 j hn
        have hM : klen n par j * (6 + (bnd t + bnd t + 1) + 1) ≤ 3 * (6 + (bnd t + bnd t + 1) + 1) := Nat.mul_le_mul_right _ k3
        have := wsh_sz (v := kv n par j C) (c := ch j) (fun i hi => ⟨hkv i hi, W.sz j hn i hi⟩) hs hs0 hl (fun i hi => Rat.le_of_lt (W.pos j hn i hi)) (by rw [W.one j hn h0]; exact hs1) rfl
        rw [ht]
        refine ((hr j hn).sub this).mono ?_
        show _ ≤ 7 * bnd t + 39
        omega
  intro j hj
  exact this (3 - m j + 1) j (by omega) hj
theorem bnd2 {h : Nat} (z : h ≤ 2) : bnd h ≤ 410 := Nat.le_trans (bnd_mono z) (by decide)
theorem bnd3 {h : Nat} (z : h ≤ 3) : bnd h ≤ 2909 := Nat.le_trans (bnd_mono z) (by decide)
/-- the values at the kids of k, ready for a threshold -/
theorem kv_ok {n : Nat} {par : Nat → Nat} {ch : Nat → Nat → Rat} {row C : Nat → Rat} {s : Rat} (T : WT n par) (W : GoodCh n par ch) (E : CEq n par ch row s C) (hr : ∀ i, i < n → Sz 2 (row i)) (hs : Sz 10 s) (hs0 : 0 < s) (hs1 : s ≤ 1) {k : Nat} (hk : k < n) : (∀ i, i < klen n par k → Sz 410 (kv n par k C i)) := by
  obtain ⟨m, m0, m1, m3⟩ := T.mom
  refine kv_sz m1 m3 (fun j hj _ he => ?_) hk
  have := C_sz m1 m3 W E hr hs hs0 hs1 j hj
  have := m3 j hj
  exact Sz.mono ‹_› (bnd2 (by omega))
theorem C_sz3 {n : Nat} {par : Nat → Nat} {ch : Nat → Nat → Rat} {row C : Nat → Rat} {s : Rat} (T : WT n par) (W : GoodCh n par ch) (E : CEq n par ch row s C) (hr : ∀ i, i < n → Sz 2 (row i)) (hs : Sz 10 s) (hs0 : 0 < s) (hs1 : s ≤ 1) : ∀ j, j < n → Sz 2909 (C j) := by
  obtain ⟨m, m0, m1, m3⟩ := T.mom
  intro j hj
  exact (C_sz m1 m3 W E hr hs hs0 hs1 j hj).mono (bnd3 (by omega))
theorem wshk_sz {n : Nat} {par : Nat → Nat} {ch : Nat → Nat → Rat} {row C : Nat → Rat} {s : Rat} (T : WT n par) (W : GoodCh n par ch) (E : CEq n par ch row s C) (hr : ∀ i, i < n → Sz 2 (row i)) (hs : Sz 10 s) (hs0 : 0 < s) (hs1 : s ≤ 1) {k : Nat} (hk : k < n) (h0 : kids n par k ≠ []) : Sz 2906 (wsh (ch k) (kv n par k C) s (klen n par k)) := by
  have hkv := kv_ok T W E hr hs hs0 hs1 hk
  have k3 := W.k3 k hk
  have hM : klen n par k * (6 + (410 + 410 + 1) + 1) ≤ 3 * (6 + (410 + 410 + 1) + 1) := Nat.mul_le_mul_right _ k3
  exact (wsh_sz (v := kv n par k C) (c := ch k) (fun i hi => ⟨hkv i hi, W.sz k hk i hi⟩) hs hs0 (klen_pos h0) (fun i hi => Rat.le_of_lt (W.pos k hk i hi)) (by rw [W.one k hk h0]; exact hs1) rfl).mono (by omega)
def wcBody : SD := (mSeq (mSetIx 4 (mVar 5) (mIx (mSq (mVar 3)) (mVar 5))) (mIfS (mNot (mTst (mCall fLast (mCons (mVar 0) (mCons (mVar 5) mNil))))) (mSeq (mSet 6 (mFz (mLc [7] (mSeqI (mSq (mCall fAhead (mCons (mVar 0) (mCons (mVar 5) mNil))))) (gNm 7) mYes (mCall fNeg (mCons (mIx (mOwn 4) (mVar 7)) mNil))))) (mSetIx 4 (mVar 5) (mCall (fBin (· + ·)) (mCons (mIx (mSq (mVar 3)) (mVar 5)) (mCons (mCall fNeg (mCons (mCall fWorst (mCons (mVar 6) (mCons (mIx (mSq (mVar 1)) (mVar 5)) (mCons (mVar 2) mNil)))) mNil)) mNil))))) mNext))
theorem wc_loop {al : List D} {De : EndsD} {p : Addr} {n : Nat} {par : Nat → Nat} {pr : Nat → Rat} {ch : Nat → Nat → Rat} {row C : Nat → Rat} {s : Rat} (T : WT n par) (W : GoodCh n par ch) (E : CEq n par ch row s C) (hr : ∀ i, i < n → Sz 2 (row i)) (hs : Sz 10 s) (hs0 : 0 < s) (hs1 : s ≤ 1) :
    ∀ (m : Nat) (e5 e6 : EV), m ≤ n → (∀ e5 e6, De.nx [.fz (treeD n par pr), .fz (.tup (rows n (klen n par) ch)), .fz (encQ s), .fz (.tup (vec n row)), .ow p (.lst (vec n C)), e5, e6, .un]) →
    forD none al (gNm 5) wcBody De (dwn m) [.fz (treeD n par pr), .fz (.tup (rows n (klen n par) ch)), .fz (encQ s), .fz (.tup (vec n row)), .ow p (.lst (fl n (hlf C m))), e5, e6, .un]
  | 0, e5, e6, _, hQ => by
    rw [hlf_0]
    exact ⟨trivial, hQ _ _⟩
  | k + 1, e5, e6, hm, hQ => by
    have hk : k < n := by omega
    have hn9 := T.n9
    have hkl := kids_len n par k
    rw [dwn_succ]
    refine ⟨trivial, ?_⟩
    have ih := fun e5 e6 => wc_loop (al := al) (De := De) (p := p) (pr := pr) T W E hr hs hs0 hs1 k e5 e6 (by omega) hQ
    have Ek := E k hk
    unfold wcBody
    lcg_off
    rw [atD_vec hk]
    rw [fl_len, ixN_nat hk]
    dsimp only
    rw [fl_set]
    refine ⟨n, par, pr, k, rfl, by omega, ?_⟩
    by_cases h0 : kids n par k = []
    · rw [decide_eq_true h0]
      simp only [Bool.true_eq_false, if_false]
      rw [if_pos h0] at Ek
      rw [← Ek, hlf_step1]
      exact ih _ _
    · rw [decide_eq_false h0]
      simp only [if_true]
      rw [if_neg h0] at Ek
      refine ⟨n, par, pr, k, rfl, by omega, ?_⟩
      dsimp only
      refine ⟨by rw [natsD_len]; omega, ?_⟩
      refine compD_map (fun x => encQ (-C (nOf x))) _ _ _ (fun x hx q hq => ?_) ?_
      · obtain ⟨j, hj, rfl⟩ := List.mem_map.mp hx
        rw [nOf_int] at hq
        obtain ⟨h1, h2, h3⟩ := mem_kids.mp hj
        have hup := T.up j (by omega) h1
        lcg_off
        rw [atD_fl h1]
        have e : updD (hlf C (k + 1)) k (encQ (row k)) j = encQ (C j) := by
          unfold updD; rw [if_neg (by omega), hlf_at (by omega)]
        rw [e]
        exact ⟨_, rfl, hq⟩
      · rw [List.nil_append, nats_map _ fun j => -C j, encL_kv]
        rw [atD_vec hk, atD_rows hk]
        have k3 := W.k3 k hk
        have hz1 : klen n par k * (10 + 1) ≤ 3 * 11 := Nat.mul_le_mul_right _ k3
        have hz2 : klen n par k * (43 + 410 + 1) ≤ 3 * (43 + 410 + 1) := Nat.mul_le_mul_right _ k3
        refine ⟨.lst (vec (klen n par k) (kv n par k C)), .tup (vec (klen n par k) (ch k)), klen n par k, kv n par k C, ch k, s, 410, 10, 43, 1363, rfl, .inl rfl, .inr rfl, (fun i hi => ⟨kv_ok T W E hr hs hs0 hs1 hk i hi, (W.sz k hk i hi).mono (by decide)⟩), hs, by grind, by omega, by decide, by omega, by decide, by omega, by decide, ?_⟩
        refine ⟨_, rfl, ?_⟩
        refine ⟨_, _, 2, 2906, rfl, hr k hk, (wshk_sz T W E hr hs hs0 hs1 hk h0).neg, by decide, ?_⟩
        dsimp only
        rw [fl_len, ixN_nat hk]
        dsimp only
        rw [fl_set]
        have e2 : row k + -(gF (ch k) (kv n par k C) (places (kv n par k C) (klen n par k)) s 0 / s) = C k := by
          rw [Ek]; show row k + -(wsh (ch k) (kv n par k C) s (klen n par k)) = _; grind
        rw [e2, hlf_step]
        exact ih _ _
def fWC : FS := fun ds Q => ∃ (n : Nat) (par : Nat → Nat) (pr : Nat → Rat) (ch : Nat → Nat → Rat) (row C : Nat → Rat) (s : Rat), ds = [treeD n par pr, .tup (rows n (klen n par) ch), encQ s, .tup (vec n row)] ∧ WT n par ∧ GoodCh n par ch ∧ CEq n par ch row s C ∧ (∀ i, i < n → Sz 2 (row i)) ∧ Sz 10 s ∧ 0 < s ∧ s ≤ 1 ∧ Q (.lst (vec n C))
theorem p_worst_costs : ∀ ds Q, fWC ds Q → b_worst_costs fLast fAhead fNeg (fBin (· + ·)) fWorst { nx := fun _ => Q .non, rt := Q } (startD N_worst_costs ds) := by
  rintro ds Q ⟨n, par, pr, ch, row, C, s, rfl, T, W, E, hr, hs, hs0, hs1, hQ⟩
  have hn9 := T.n9
  have ee : treeD n par pr = .tup [.str "tree", .tup [.str "coin"], .tup (nodesD n par pr)] := rfl
  have main : ∀ p, forD none (dwn n) (gNm 5) wcBody { nx := mGive 4 (mRet (mVar 4)) { nx := fun _ => Q .non, rt := Q }, rt := Q } (dwn n) [.fz (treeD n par pr), .fz (.tup (rows n (klen n par) ch)), .fz (encQ s), .fz (.tup (vec n row)), .ow p (.lst (fl n (hlf C n))), .un, .un, .un] := fun p =>
    wc_loop T W E hr hs hs0 hs1 n .un .un (Nat.le_refl _) fun e5 e6 => by
      lcg_off
      exact hQ
  rw [ee] at main
  unfold b_worst_costs
  lcg_off
  rw [ee]
  dsimp only
  rw [atT2]
  dsimp only
  rw [nodesD_len, flat_rep]
  simp only [mRange3]
  refine ⟨by decide, by omega, by omega, by omega, fun p => ?_⟩
  lcg_off
  rw [atT2]
  dsimp only
  rw [nodesD_len, Int.toNat_natCast, ← hlf_n n C]
  refine ⟨n, rgc_dwn (by omega), ?_⟩
  rw [rng3_dwn]
  exact main p
def fWC0 : FS := fun ds Q => ∃ (n : Nat) (par : Nat → Nat) (pr : Nat → Rat) (ch : Nat → Nat → Rat) (row C : Nat → Rat) (s : Rat), ds = [treeD n par pr, .tup (rows n (klen n par) ch), encQ s, .tup (vec n row)] ∧ WT n par ∧ GoodCh n par ch ∧ CEq n par ch row s C ∧ (∀ i, i < n → Sz 2 (row i)) ∧ Sz 10 s ∧ 0 < s ∧ s ≤ 1 ∧ Q (encQ (C 0))
theorem p_worst_cost : ∀ ds Q, fWC0 ds Q → b_worst_cost fWC { nx := fun _ => Q .non, rt := Q } (startD N_worst_cost ds) := by
  rintro ds Q ⟨n, par, pr, ch, row, C, s, rfl, T, W, E, hr, hs, hs0, hs1, hQ⟩
  unfold b_worst_cost
  lcg_off
  refine ⟨n, par, pr, ch, row, C, s, rfl, T, W, E, hr, hs, hs0, hs1, ?_⟩
  dsimp only
  rw [show (0 : Int) = ((0 : Nat) : Int) from rfl, atD_vec T.n0]
  exact hQ
end DL
set_option Elab.async false
set_option linter.all false
set_option autoImplicit false
set_option maxRecDepth 100000
namespace DL
open PySem PySem.Spec
open PyProof.Rows hiding St
open L2
local macro_rules | `(tactic| lcg_off) => `(tactic| simp only [mVar, mC, mNil, mCons, mTup, mTupF, mLst, mFz, mOp, oI0, oI, oEq, oNe, oIsN, oNotN, oIsB, oIsNotB, oCatT, oCatL, oRepT, mRepL, mIx, mSq, mOwn, mTst, mAnd, mOr, mNot, mAndV, mOrV, mNotV, mIf, mNeg, mCall, mCB, cAbs, cInt, mLen, mTupO, mLstO, mLrg1, mSum, mAny, mAll, mIndex, mNoP, mPart, mSlT, mSlL, mIsi, mDGet, mDisp, mPairs, mWeak, mSeqI, mRange1, mRange2, mYes, gNm, gTupD, gConsD, gNilD, mLc, mNext, mSeq, mBreak, mCont, mAsg, mSet, mSetOw, mPar, mPar3, mParO, mParO1, mParOO, mDrop, mRet, mRetN, mIfS, mGive, mApp, mSetIx, mIns, mRem, isOw, onOw, mEqQ, mNeQ, mNewT, mPutT, onDt, mGetT, mFor, startD, List.map_cons, List.map_nil, List.length_cons, List.length_nil, List.cons_append, List.nil_append, List.getElem?_cons_zero, List.getElem?_cons_succ, List.set_cons_zero, List.set_cons_succ, List.replicate_succ, List.replicate_zero, Nat.reduceAdd, Nat.reduceSub, Nat.zero_add, Nat.sub_self, decide_eq_true_eq, Bool.not_eq_true, Bool.not_eq_eq_eq_not, if_true, if_false, ite_true, ite_false, Bool.false_eq_true, noOw, wipeD, List.all_cons, List.all_nil, Bool.and_true, true_and, and_true, D.isNon, Bool.not_true, Bool.not_false])
/-! ## the grown tree -/
theorem kids_succ (n : Nat) (par : Nat → Nat) (i : Nat) : kids (n + 1) par i = kids n par i ++ if n ≠ 0 ∧ par n = i then [n] else [] := by
  unfold kids
  rw [List.range_succ, List.filter_append]
  congr 1
  rw [List.filter_cons]
  by_cases h : n ≠ 0 ∧ par n = i
  · rw [if_pos h, if_pos (decide_eq_true h)]; rfl
  · rw [if_neg h, if_neg (by rw [decide_eq_false h]; decide)]; rfl
theorem klen_succ (n : Nat) (par : Nat → Nat) (i : Nat) : klen (n + 1) par i = klen n par i + if n ≠ 0 ∧ par n = i then 1 else 0 := by
  unfold klen
  rw [kids_succ, List.length_append]
  congr 1
  split <;> rfl
def nsum (S : List Nat) (f : Nat → Nat) : Nat := (S.map f).sum
theorem nsum_add (S : List Nat) (f g : Nat → Nat) : nsum S (fun i => f i + g i) = nsum S f + nsum S g := by
  unfold nsum
  induction S with
  | nil => rfl
  | cons a S ih => simp only [List.map_cons, List.sum_cons]; omega
theorem nsum_one (S : List Nat) (x : Nat) (p : Prop) [Decidable p] (h : S.Nodup) : nsum S (fun i => if p ∧ x = i then 1 else 0) ≤ 1 ∧ (x ∉ S → nsum S (fun i => if p ∧ x = i then 1 else 0) = 0) := by
  unfold nsum
  induction S with
  | nil => simp
  | cons a S ih =>
    rw [List.nodup_cons] at h
    obtain ⟨h1, h2⟩ := ih h.2
    rw [List.map_cons, List.sum_cons]
    by_cases e : p ∧ x = a
    · rw [if_pos e, h2 (e.2 ▸ h.1)]
      exact ⟨by omega, fun z => absurd (by rw [e.2]; exact List.mem_cons_self) z⟩
    · rw [if_neg e]
      exact ⟨by omega, fun z => by rw [h2 fun y => z (List.mem_cons_of_mem _ y)]⟩
theorem nsum_kids (S : List Nat) (h : S.Nodup) (par : Nat → Nat) : ∀ n, nsum S (klen n par) ≤ n - 1
  | 0 => by
    have : ∀ S : List Nat, nsum S (klen 0 par) = 0 := by
      intro S
      induction S with
      | nil => rfl
      | cons a S ih => unfold nsum at *; rw [List.map_cons, List.sum_cons, ih]; rfl
    rw [this]; omega
  | 1 => by
    have : ∀ S : List Nat, nsum S (klen 1 par) = 0 := by
      intro S
      induction S with
      | nil => rfl
      | cons a S ih => unfold nsum at *; rw [List.map_cons, List.sum_cons, ih]; rfl
    rw [this]; omega
  | n + 2 => by
    have ih := nsum_kids S h par (n + 1)
    have e : klen (n + 2) par = fun i => klen (n + 1) par i + if (n + 1 ≠ 0) ∧ par (n + 1) = i then 1 else 0 := funext fun i => klen_succ _ _ _
    rw [e, nsum_add]
    have := (nsum_one S (par (n + 1)) (n + 1 ≠ 0) h).1
    omega
theorem nsum_ge {S : List Nat} {f : Nat → Nat} (h : ∀ i ∈ S, 3 ≤ f i) : 3 * S.length ≤ nsum S f := by
  unfold nsum
  induction S with
  | nil => simp
  | cons a S ih =>
    have := ih fun i hi => h i (List.mem_cons_of_mem _ hi)
    have := h a List.mem_cons_self
    rw [List.map_cons, List.sum_cons, List.length_cons]
    omega
theorem kids_nodup (n : Nat) (par : Nat → Nat) (k : Nat) : (kids n par k).Nodup := List.Nodup.sublist List.filter_sublist List.nodup_range
theorem able_ex {k : Nat} {par m : Nat → Nat} (h1 : 1 ≤ k) (h8 : k ≤ 8) (m0 : m 0 = 0) (m1 : ∀ j, 0 < j → j < k → m j = m (par j) + 1) : ∃ j, j < k ∧ klen k par j < 3 ∧ m j < 3 := by
  apply Classical.byContradiction
  intro hno
  have all : ∀ j, j < k → m j < 3 → 3 ≤ klen k par j := fun j hj hm => by
    apply Classical.byContradiction
    intro z
    exact hno ⟨j, hj, by omega, hm⟩
  have r3 := all 0 (by omega) (by omega)
  have hk : ∀ j ∈ kids k par 0, 3 ≤ klen k par j := fun j hj => by
    obtain ⟨a, b, c⟩ := mem_kids.mp hj
    refine all j a ?_
    rw [m1 j (by omega) a, c, m0]; decide
  have hnd : (0 :: kids k par 0).Nodup := List.nodup_cons.mpr ⟨fun z => (mem_kids.mp z).2.1 rfl, kids_nodup _ _ _⟩
  have s1 := nsum_kids _ hnd par k
  have s2 := nsum_ge (S := 0 :: kids k par 0) (f := klen k par) (fun i hi => by
    rcases List.mem_cons.mp hi with rfl | hi
    · exact r3
    · exact hk i hi)
  rw [List.length_cons] at s2
  have : 3 ≤ (kids k par 0).length := r3
  omega
theorem kids_congr {n : Nat} {p q : Nat → Nat} (h : ∀ i, i < n → p i = q i) (k : Nat) : kids n p k = kids n q k := by
  unfold kids
  refine List.filter_congr fun j hj => ?_
  rw [h j (List.mem_range.mp hj)]
theorem nodesD_congr {n : Nat} {p q : Nat → Nat} {r s : Nat → Rat} (h : ∀ i, i < n → p i = q i) (h2 : ∀ i, i < n → r i = s i) : nodesD n p r = nodesD n q s := by
  unfold nodesD
  refine List.map_congr_left fun j hj => ?_
  unfold nodeD backD
  rw [h j (List.mem_range.mp hj), h2 j (List.mem_range.mp hj)]
/-- a tree in the making, of k nodes -/
structure GT (k : Nat) (par m : Nat → Nat) : Prop where
  m0 : m 0 = 0
  up : ∀ j, 0 < j → j < k → par j < j ∧ m j = m (par j) + 1
  m3 : ∀ j, j < k → m j ≤ 3
  k3 : ∀ i, klen k par i ≤ 3
def upN (f : Nat → Nat) (k x : Nat) : Nat → Nat := fun i => if i = k then x else f i
theorem GT.grow {k : Nat} {par m : Nat → Nat} (h : GT k par m) (h1 : 1 ≤ k) {b : Nat} (hb : b < k) (hk : klen k par b < 3) (hm : m b < 3) : GT (k + 1) (upN par k b) (upN m k (m b + 1)) := by
  have ek : ∀ i, kids k (upN par k b) i = kids k par i := kids_congr fun i hi => by unfold upN; rw [if_neg (by omega)]
  refine ⟨?_, ?_, ?_, ?_⟩
  · unfold upN; rw [if_neg (by omega)]; exact h.m0
  · intro j hj0 hj
    by_cases e : j = k
    · subst e
      unfold upN
      rw [if_pos rfl, if_pos rfl, if_neg (by omega)]
      exact ⟨hb, rfl⟩
    · obtain ⟨a, c⟩ := h.up j hj0 (by omega)
      unfold upN
      rw [if_neg e, if_neg e, if_neg (by omega)]
      exact ⟨a, c⟩
  · intro j hj
    unfold upN
    split
    · omega
    · exact h.m3 j (by omega)
  · intro i
    have := h.k3 i
    rw [klen_succ]
    unfold klen at *
    rw [ek]
    split
    · rename_i z
      have : i = b := by rw [← z.2]; unfold upN; rw [if_pos rfl]
      subst this
      omega
    · omega
theorem GT.wt {n : Nat} {par m : Nat → Nat} (h : GT n par m) (h0 : 0 < n) (h9 : n ≤ 9) : WT n par := ⟨h0, h9, fun j a b => (h.up j a b).1, m, h.m0, fun j a b => (h.up j a b).2, h.m3⟩
def momD (k : Nat) (m : Nat → Nat) : List D := fl k fun i => .int ((m i : Nat) : Int)
theorem momD_succ (k : Nat) (m : Nat → Nat) (x : Nat) : momD (k + 1) (upN m k x) = momD k m ++ [.int ((x : Nat) : Int)] := by
  unfold momD fl
  rw [List.range_succ, List.map_append]
  congr 1
  · exact List.map_congr_left fun i hi => by unfold upN; rw [if_neg (by have := List.mem_range.mp hi; omega)]
  · show [D.int ((upN m k x k : Nat) : Int)] = _
    unfold upN; rw [if_pos rfl]
theorem nodesD_succ (k : Nat) (par : Nat → Nat) (pr : Nat → Rat) (b : Nat) (q : Rat) (hk : k ≠ 0) : nodesD (k + 1) (upN par k b) (upf pr k q) = nodesD k par pr ++ [.tup [.int ((b : Nat) : Int), .tup [encQ q]]] := by
  have e : nodesD k (upN par k b) (upf pr k q) = nodesD k par pr := nodesD_congr (fun i hi => by unfold upN; rw [if_neg (by omega)]) (fun i hi => by unfold upf; rw [if_neg (by omega)])
  rw [← e]
  unfold nodesD
  rw [List.range_succ, List.map_append]
  congr 1
  show [nodeD (upN par k b) (upf pr k q) k] = _
  unfold nodeD backD upN upf
  rw [if_neg hk, if_pos rfl, if_pos rfl]
def backEq (j : Nat) : D → Bool
  | .tup (d :: _) => D.eqv d (.int ((j : Nat) : Int))
  | _ => false
theorem backEq_node (par : Nat → Nat) (pr : Nat → Rat) (i j : Nat) : backEq j (nodeD par pr i) = decide (i ≠ 0 ∧ par i = j) := by
  show D.eqv (backD par i) (.int ((j : Nat) : Int)) = _
  rw [eqv_back]
theorem filt_nodes (k : Nat) (par : Nat → Nat) (pr : Nat → Rat) (j : Nat) : ((nodesD k par pr).filter (backEq j)).length = klen k par j := by
  unfold nodesD klen kids
  rw [List.filter_map, List.length_map]
  congr 1
  exact List.filter_congr fun i _ => backEq_node par pr i j
end DL
set_option Elab.async false
set_option linter.all false
set_option autoImplicit false
set_option maxRecDepth 100000
namespace DL
open PySem PySem.Spec
open PyProof.Rows hiding St
open L2
local macro_rules | `(tactic| lcg_off) => `(tactic| simp only [mVar, mC, mNil, mCons, mTup, mTupF, mLst, mFz, mOp, oI0, oI, oEq, oNe, oIsN, oNotN, oIsB, oIsNotB, oCatT, oCatL, oRepT, mRepL, mIx, mSq, mOwn, mTst, mAnd, mOr, mNot, mAndV, mOrV, mNotV, mIf, mNeg, mCall, mCB, cAbs, cInt, mLen, mTupO, mLstO, mLrg1, mSum, mAny, mAll, mIndex, mNoP, mPart, mSlT, mSlL, mIsi, mDGet, mDisp, mPairs, mWeak, mSeqI, mRange1, mRange2, mYes, gNm, gTupD, gConsD, gNilD, mLc, mNext, mSeq, mBreak, mCont, mAsg, mSet, mSetOw, mPar, mPar3, mParO, mParO1, mParOO, mDrop, mRet, mRetN, mIfS, mGive, mApp, mSetIx, mIns, mRem, isOw, onOw, mEqQ, mNeQ, mNewT, mPutT, onDt, mGetT, mFor, startD, List.map_cons, List.map_nil, List.length_cons, List.length_nil, List.cons_append, List.nil_append, List.getElem?_cons_zero, List.getElem?_cons_succ, List.set_cons_zero, List.set_cons_succ, List.replicate_succ, List.replicate_zero, Nat.reduceAdd, Nat.reduceSub, Nat.zero_add, Nat.sub_self, decide_eq_true_eq, Bool.not_eq_true, Bool.not_eq_eq_eq_not, if_true, if_false, ite_true, ite_false, Bool.false_eq_true, noOw, wipeD, List.all_cons, List.all_nil, Bool.and_true, true_and, and_true, D.isNon, Bool.not_true, Bool.not_false])
def lhBody : SD := (mSeq (mSet 6 (mFz (mLc [7] (mRange1 (mCons (mVar 5) mNil)) (gNm 7) (mAnd (mTst (mOp (oI0 fun i j => .bl (decide (i < j))) (mLen (mSq (mFz (mLc [8] (mSeqI (mOwn 3)) (gNm 8) (mTst (mOp oEq (mIx (mSq (mVar 8)) (mC (.int 0))) (mVar 7))) (mVar 8))))) (mC (.int 3)))) (mTst (mOp (oI0 fun i j => .bl (decide (i < j))) (mIx (mOwn 4) (mVar 7)) (mC (.int 3))))) (mVar 7)))) (mSeq (mSet 9 (mIx (mSq (mVar 6)) (mCall fTake (mCons (mVar 0) (mCons (mLen (mSq (mVar 6))) mNil))))) (mSeq (mApp 3 (mTup (mCons (mVar 9) (mCons (mTup (mCons (mCall fPrice (mCons (mVar 0) mNil)) mNil)) mNil)))) (mApp 4 (mOp (oI0 fun i j => .int (i + j)) (mIx (mOwn 4) (mVar 9)) (mC (.int 1)))))))
theorem price_one {Q : D → Prop} (h : ∀ q : Rat, Sz 4 q → Q (encQ q)) : fPrice [.tok] Q := ⟨rfl, h⟩
theorem lh_loop {al : List D} {De : EndsD} {p q : Addr} {n : Nat} {e10 : EV} (h2 : 2 ≤ n) (h9 : n ≤ 9) (hQ : ∀ (par m : Nat → Nat) (pr : Nat → Rat) (e5 e6 e9 : EV), (∀ p c, e5 ≠ .ow p c) → GT n par m → De.nx [.fz .tok, .fz (.int 9), .fz (.int (n : Int)), .ow p (.lst (nodesD n par pr)), .ow q (.lst (momD n m)), e5, e6, .un, .un, e9, e10]) :
    ∀ (r k : Nat) (par m : Nat → Nat) (pr : Nat → Rat) (e5 e6 e9 : EV), k + r = n → 1 ≤ k → (∀ p c, e5 ≠ .ow p c) → GT k par m →
    forD none al (gNm 5) lhBody De ((List.range' k r).map fun i => D.int ((i : Nat) : Int)) [.fz .tok, .fz (.int 9), .fz (.int (n : Int)), .ow p (.lst (nodesD k par pr)), .ow q (.lst (momD k m)), e5, e6, .un, .un, e9, e10]
  | 0, k, par, m, pr, e5, e6, e9, hk, h1, h5, g => by
    have : k = n := by omega
    subst this
    exact ⟨trivial, hQ _ _ _ _ _ _ h5 g⟩
  | r + 1, k, par, m, pr, e5, e6, e9, hk, h1, h5, g => by
    have hk' : k < n := by omega
    have ih := fun par m pr e5 e6 e9 h5 g => lh_loop (al := al) (De := De) (p := p) (q := q) (e10 := e10) h2 h9 hQ r (k + 1) par m pr e5 e6 e9 (by omega) (by omega) h5 g
    rw [List.range'_succ, List.map_cons]
    refine ⟨trivial, ?_⟩
    unfold lhBody
    lcg_off
    rw [Int.toNat_natCast]
    refine ⟨by omega, by omega, by rw [List.length_map, List.length_range]; omega, ?_⟩
    refine compD_fm (fun x => (fun j => decide (klen k par j < 3 ∧ m j < 3)) (nOf x)) id (ixs k) _ _ (fun x hx K K0 k1 k2 => ?_) ?_
    · obtain ⟨j, hj, rfl⟩ := mem_ixs hx
      dsimp only at k1 k2
      rw [nOf_int] at k1 k2
      lcg_off
      refine ⟨by rw [nodesD_len]; omega, ?_⟩
      refine compD_fm (backEq j) id _ _ _ (fun y hy K' K0' k1' k2' => ?_) ?_
      · obtain ⟨i, hi, rfl⟩ := List.mem_map.mp hy
        rw [backEq_node] at k1' k2'
        unfold nodeD at k1' ⊢
        lcg_off
        rw [atD0, eqv_back]
        refine ⟨pl_back _ _, rfl, ?_⟩
        by_cases h : i ≠ 0 ∧ par i = j
        · rw [decide_eq_true h] at k1' ⊢
          simp only [if_true]
          exact k1' rfl
        · rw [decide_eq_false h] at k2' ⊢
          simp only [Bool.false_eq_true, if_false]
          exact k2' rfl
      · rw [List.nil_append, List.map_id, filt_nodes]
        by_cases c1 : klen k par j < 3
        · rw [if_pos (by omega)]
          unfold momD
          rw [atD_fl hj]
          dsimp only
          by_cases c2 : m j < 3
          · rw [if_pos (by omega)]
            exact k1 (decide_eq_true ⟨c1, c2⟩)
          · rw [if_neg (by omega)]
            exact k2 (decide_eq_false fun z => c2 z.2)
        · rw [if_neg (by omega)]
          exact k2 (decide_eq_false fun z => c1 z.1)
    · rw [List.nil_append, List.map_id, filt_ixs k fun j => decide (klen k par j < 3 ∧ m j < 3)]
      have hA : ∀ j, j ∈ (List.range k).filter (fun j => decide (klen k par j < 3 ∧ m j < 3)) ↔ j < k ∧ klen k par j < 3 ∧ m j < 3 := fun j => by
        rw [List.mem_filter, List.mem_range, decide_eq_true_eq]
      have hlen : ((List.range k).filter (fun j => decide (klen k par j < 3 ∧ m j < 3))).length ≤ k := by
        have := List.length_filter_le (fun j => decide (klen k par j < 3 ∧ m j < 3)) (List.range k)
        rwa [List.length_range] at this
      generalize (List.range k).filter (fun j => decide (klen k par j < 3 ∧ m j < 3)) = A at hA hlen
      have hA0 : 0 < A.length := by
        obtain ⟨j, a, b, c⟩ := able_ex h1 (by omega) g.m0 fun j a b => (g.up j a b).2
        exact List.length_pos_of_mem ((hA j).mpr ⟨a, b, c⟩)
      rw [natsD_len]
      refine ⟨(A.length : Int), rfl, by omega, fun r1 ga gb => ?_⟩
      obtain ⟨x, hx, rfl⟩ := take_ix hA0 ga gb
      dsimp only
      rw [atD_nats hx]
      obtain ⟨b1, b2, b3⟩ := (hA _).mp (List.getElem_mem hx)
      generalize A[x] = b at b1 b2 b3
      refine price_one fun pq hpq => ?_
      refine ⟨by decide, by decide, by rw [nodesD_len]; omega, ?_⟩
      dsimp only
      have em : ∀ Q : D → Prop, atD (momD k m) ((b : Nat) : Int) Q = Q (.int ((m b : Nat) : Int)) := fun Q => by unfold momD; exact atD_fl b1 Q
      rw [em]
      dsimp only
      refine ⟨by unfold momD; rw [fl_len]; omega, ?_⟩
      have := ih (upN par k b) (upN m k (m b + 1)) (upf pr k pq) (.fz (.int ((k : Nat) : Int))) (.fz (.lst (natsD A))) (.fz (.int ((b : Nat) : Int))) (fun p c z => by cases z) (g.grow h1 b1 b2 b3)
      rw [nodesD_succ _ _ _ _ _ (by omega), momD_succ] at this
      exact this
def fLH : FS := fun ds Q => ds = [.tok, .int 9] ∧ ∀ (n : Nat) (par : Nat → Nat) (pr : Nat → Rat) (mo : D), WT n par → 2 ≤ n → (∀ k, klen n par k ≤ 3) → Q (houseD n par pr mo)
theorem p__law_line_house : ∀ ds Q, fLH ds Q → b__law_line_house fTake fPrice { nx := fun _ => Q .non, rt := Q } (startD N__law_line_house ds) := by
  rintro ds Q ⟨rfl, hQ⟩
  unfold b__law_line_house
  lcg_off
  refine ⟨8, rfl, by decide, fun r _ hr => ?_⟩
  obtain ⟨n, h2, h9, rfl⟩ : ∃ n : Nat, 2 ≤ n ∧ n ≤ 9 ∧ r = (n : Int) - 2 := ⟨(r + 2).toNat, by have := hr (by decide); omega, by have := hr (by decide); omega, by have := hr (by decide); omega⟩
  dsimp only
  rw [show (2 : Int) + ((n : Int) - 2) = (n : Int) by omega]
  refine price_one fun pq hpq => ?_
  have er : (List.range ((n : Int) - 1).toNat).map (fun i : Nat => D.int (1 + (i : Int))) = (List.range' 1 (n - 1)).map fun i => D.int ((i : Nat) : Int) := by
    rw [show ((n : Int) - 1).toNat = n - 1 by omega, List.range'_eq_map_range, List.map_map]
    refine List.map_congr_left fun i _ => ?_
    show D.int _ = D.int _
    congr 1
  refine ⟨by decide, by decide, by decide, by decide, fun p q => ⟨by omega, ?_⟩⟩
  rw [er]
  refine lh_loop (n := n) h2 h9 ?_ (n - 1) 1 (fun _ => 0) (fun _ => 0) (fun _ => pq) .un .un .un (by omega) (by decide) (fun p c z => by cases z) ⟨rfl, fun j a b => by omega, fun j _ => by decide, fun i => show klen 1 (fun _ => 0) i ≤ 3 from Nat.zero_le 3⟩
  intro par m pr e5 e6 e9 h5 g
  lcg_off
  rw [Int.toNat_natCast]
  refine ⟨by omega, by omega, by cases e5 <;> first | rfl | exact absurd rfl (h5 _ _), by rw [List.length_map, List.length_range]; omega, ?_⟩
  refine compD_map (fun x => .lst (natsD (kids n par (nOf x)))) (ixs n) _ _ (fun x hx K hK => ?_) ?_
  · obtain ⟨k, hk, rfl⟩ := mem_ixs hx
    rw [nOf_int] at hK
    lcg_off
    rw [Int.toNat_natCast]
    refine ⟨by omega, by omega, by rw [List.length_map, List.length_range]; omega, ?_⟩
    refine compD_fm (fun x => (fun j => decide (j ≠ 0 ∧ par j = k)) (nOf x)) id (ixs n) _ _ (fun x hx q q0 k1 k2 => ?_) ?_
    · obtain ⟨i, hi, rfl⟩ := mem_ixs hx
      dsimp only at k1 k2
      rw [nOf_int] at k1 k2
      lcg_off
      rw [atD_nodes hi]
      unfold nodeD
      dsimp only
      rw [atD0, eqv_back]
      refine ⟨pl_back _ _, rfl, ?_⟩
      by_cases h : i ≠ 0 ∧ par i = k
      · rw [decide_eq_true h] at k1 ⊢
        simp only [if_true]
        exact k1 rfl
      · rw [decide_eq_false h] at k2 ⊢
        simp only [Bool.false_eq_true, if_false]
        exact k2 rfl
    · rw [List.nil_append, List.map_id, filt_ixs n fun j => decide (j ≠ 0 ∧ par j = k)]
      exact hK
  · rw [List.nil_append, ixs_map n fun k => .lst (natsD (kids n par k))]
    refine ⟨by decide, by decide, by decide, ?_⟩
    exact hQ n par pr (.lst (momD n m)) (g.wt (by omega) h9) h2 g.k3
end DL
set_option Elab.async false
set_option linter.all false
set_option autoImplicit false
set_option maxRecDepth 100000
namespace DL
open PySem PySem.Spec
open PyProof.Rows hiding St
open L2
local macro_rules | `(tactic| lcg_off) => `(tactic| simp only [mVar, mC, mNil, mCons, mTup, mTupF, mLst, mFz, mOp, oI0, oI, oEq, oNe, oIsN, oNotN, oIsB, oIsNotB, oCatT, oCatL, oRepT, mRepL, mIx, mSq, mOwn, mTst, mAnd, mOr, mNot, mAndV, mOrV, mNotV, mIf, mNeg, mCall, mCB, cAbs, cInt, mLen, mTupO, mLstO, mLrg1, mSum, mAny, mAll, mIndex, mNoP, mPart, mSlT, mSlL, mIsi, mDGet, mDisp, mPairs, mWeak, mSeqI, mRange1, mRange2, mYes, gNm, gTupD, gConsD, gNilD, mLc, mNext, mSeq, mBreak, mCont, mAsg, mSet, mSetOw, mPar, mPar3, mParO, mParO1, mParOO, mDrop, mRet, mRetN, mIfS, mGive, mApp, mSetIx, mIns, mRem, isOw, onOw, mEqQ, mNeQ, mNewT, mPutT, onDt, mGetT, mFor, startD, List.map_cons, List.map_nil, List.length_cons, List.length_nil, List.cons_append, List.nil_append, List.getElem?_cons_zero, List.getElem?_cons_succ, List.set_cons_zero, List.set_cons_succ, List.replicate_succ, List.replicate_zero, Nat.reduceAdd, Nat.reduceSub, Nat.zero_add, Nat.sub_self, decide_eq_true_eq, Bool.not_eq_true, Bool.not_eq_eq_eq_not, if_true, if_false, ite_true, ite_false, Bool.false_eq_true, noOw, wipeD, List.all_cons, List.all_nil, Bool.and_true, true_and, and_true, D.isNon, Bool.not_true, Bool.not_false])
/-! ## there are such C, G, on -/
def itF (step : Nat → (Nat → Rat) → Rat) : Nat → Nat → Rat
  | 0, _ => 0
  | f + 1, k => step k (itF step f)
theorem down_ex (n : Nat) (step : Nat → (Nat → Rat) → Rat) (loc : ∀ k f g, k < n → (∀ j, k < j → j < n → f j = g j) → step k f = step k g) : ∃ C : Nat → Rat, ∀ k, k < n → C k = step k C := by
  have hF : ∀ f k, itF step (f + 1) k = step k (itF step f) := fun _ _ => rfl
  have st : ∀ f k, k < n → n ≤ k + f → itF step f k = itF step (f + 1) k := by
    intro f
    induction f with
    | zero => intro k hk h; omega
    | succ f ih =>
      intro k hk h
      show step k (itF step f) = step k (itF step (f + 1))
      exact loc k _ _ hk fun j h1 h2 => ih j h2 (by omega)
  refine ⟨itF step n, fun k hk => ?_⟩
  rw [st n k hk (by omega), hF]
theorem up_ex (n : Nat) (step : Nat → (Nat → Rat) → Rat) (loc : ∀ k f g, k < n → (∀ j, j < k → f j = g j) → step k f = step k g) : ∃ C : Nat → Rat, ∀ k, k < n → C k = step k C := by
  have hF : ∀ f k, itF step (f + 1) k = step k (itF step f) := fun _ _ => rfl
  have st : ∀ f k, k < n → k < f → itF step f k = itF step (f + 1) k := by
    intro f
    induction f with
    | zero => intro k hk h; omega
    | succ f ih =>
      intro k hk h
      show step k (itF step f) = step k (itF step (f + 1))
      exact loc k _ _ hk fun j h1 => ih j (by omega) (by omega)
  refine ⟨itF step n, fun k hk => ?_⟩
  rw [st n k hk hk, hF]
theorem gF_congr {c u v : Nat → Rat} : ∀ (L : List Nat) (l f : Rat), (∀ i ∈ L, u i = v i) → gF c u L l f = gF c v L l f
  | [], l, f, _ => rfl
  | k :: L, l, f, h => by
    rw [gF, gF, h k List.mem_cons_self, gF_congr L _ _ fun i hi => h i (List.mem_cons_of_mem _ hi)]
theorem insP_congr {u v : Nat → Rat} {k : Nat} (hk : u k = v k) : ∀ L : List Nat, (∀ i ∈ L, u i = v i) → insP u k L = insP v k L
  | [], _ => rfl
  | a :: L, h => by
    unfold insP
    rw [hk, h a List.mem_cons_self, insP_congr hk L fun i hi => h i (List.mem_cons_of_mem _ hi)]
theorem places_congr {u v : Nat → Rat} : ∀ n : Nat, (∀ i, i < n → u i = v i) → places u n = places v n
  | 0, _ => rfl
  | n + 1, h => by
    have e := places_congr n fun i hi => h i (by omega)
    unfold places
    rw [e, insP_congr (h n (by omega)) _ fun i hi => h i (by have := mem_places.mp hi; omega)]
theorem wsh_congr {c u v : Nat → Rat} {s : Rat} {n : Nat} (h : ∀ i, i < n → u i = v i) : wsh c u s n = wsh c v s n := by
  unfold wsh
  rw [places_congr n h, gF_congr _ _ _ fun i hi => h i (mem_places.mp hi)]
theorem kv_congr {n : Nat} {par : Nat → Nat} (T : WT n par) {k : Nat} {f g : Nat → Rat} (h : ∀ j, k < j → j < n → f j = g j) : ∀ i, i < klen n par k → kv n par k f i = kv n par k g i := by
  intro i hi
  obtain ⟨h1, h2, h3⟩ := mem_kids.mp (kid_at hi)
  have := T.up _ (by omega) h1
  unfold kv
  rw [h _ (by omega) h1]
theorem C_ex {n : Nat} {par : Nat → Nat} (T : WT n par) (ch : Nat → Nat → Rat) (row : Nat → Rat) (s : Rat) : ∃ C, CEq n par ch row s C := by
  refine down_ex n (fun k C => if kids n par k = [] then row k else row k - wsh (ch k) (kv n par k C) s (klen n par k)) ?_
  intro k f g hk h
  rw [wsh_congr (kv_congr T h)]
theorem G_ex {n : Nat} {par : Nat → Nat} (T : WT n par) (row : Nat → Rat) : ∃ G, GEq n par row G := by
  refine down_ex n (fun k G => row k + mostL ((kids n par k).map G)) ?_
  intro k f g hk h
  have : (kids n par k).map f = (kids n par k).map g := List.map_congr_left fun j hj => by
    obtain ⟨h1, h2, h3⟩ := mem_kids.mp hj
    have := T.up _ (by omega) h1
    exact h j (by omega) h1
  rw [this]
theorem on_ex {n : Nat} {par : Nat → Nat} (T : WT n par) (ch : Nat → Nat → Rat) : ∃ on, Cond n par ch on := by
  obtain ⟨on, h⟩ := up_ex n (fun k f => if k = 0 then 1 else if par k < k then f (par k) * ch (par k) (ixOf n par k) else 0) (fun k f g hk h => by
    by_cases e : par k < k
    · rw [h _ e]
    · rw [if_neg e, if_neg e])
  refine ⟨on, ?_, fun j h0 hj => ?_⟩
  · rw [h 0 T.n0]; rfl
  · rw [h j hj, if_neg (by omega), if_pos (T.up j h0 hj)]
/-! ## the mean: share one -/
theorem gF_one1 {c v : Nat → Rat} : ∀ (L : List Nat) (l : Rat), (∀ i ∈ L, 0 ≤ c i) → lsm L c = l → gF c v L l 0 = lsm L fun i => c i * v i
  | [], l, _, h => rfl
  | k :: L, l, hc, h => by
    rw [lsm] at h
    have hk := hc k List.mem_cons_self
    have hL : ∀ i ∈ L, 0 ≤ c i := fun i hi => hc i (List.mem_cons_of_mem _ hi)
    have hn := lsm_nonneg L hL
    have et : tk c k l = c k := by
      unfold tk
      split
      · rfl
      · grind
    rw [gF, gF_lin, et, gF_one1 L (l - c k) hL (by grind), lsm]
    grind
theorem wsh_one {c v : Nat → Rat} {n : Nat} (hc : ∀ i, i < n → 0 ≤ c i) (h1 : sm n c = 1) : wsh c v 1 n = sm n fun i => c i * v i := by
  unfold wsh
  rw [gF_one1 _ _ (fun i hi => hc i (mem_places.mp hi)) (by rw [lsm_places]; exact h1), lsm_places]
  rw [Rat.div_def, show (1 : Rat)⁻¹ = 1 from by decide +kernel, Rat.mul_one]
/-! ## tiny share: the worst alone -/
theorem wsh_tiny {c v : Nat → Rat} {s : Rat} {n : Nat} (hn : 0 < n) (h0 : 0 < s) (hc : ∀ i, i < n → s < c i) : ∃ k, k < n ∧ wsh c v s n = v k ∧ ∀ i, i < n → v k ≤ v i := by
  have hpl := places_len v n
  have hso := (places_srt v n).1
  unfold wsh
  cases hp : places v n with
  | nil => rw [hp] at hpl; simp at hpl; omega
  | cons k L =>
    have hk : k < n := mem_places.mp (by rw [hp]; exact List.mem_cons_self)
    refine ⟨k, hk, ?_, fun i hi => ?_⟩
    · have et : tk c k s = s := by unfold tk; rw [if_neg (by have := hc k hk; grind)]
      have hz : ∀ (M : List Nat), (∀ i ∈ M, 0 ≤ c i) → gF c v M 0 0 = 0 := by
        intro M
        induction M with
        | nil => intro _; rfl
        | cons a M ih =>
          intro hM
          have ha := hM a List.mem_cons_self
          have et : tk c a 0 = 0 := by unfold tk; rw [if_neg (by grind)]
          rw [gF, et, Rat.sub_self]
          have : (0 : Rat) + 0 * v a = 0 := by grind
          rw [this]
          exact ih fun i hi => hM i (List.mem_cons_of_mem _ hi)
      rw [gF, gF_lin, et, Rat.sub_self, hz L fun i hi => by
        have := hc i (mem_places.mp (by rw [hp]; exact List.mem_cons_of_mem _ hi)); grind]
      have : s * s⁻¹ = 1 := Rat.mul_inv_cancel _ (by grind)
      simp only [Rat.div_def]
      grind
    · rw [hp, List.pairwise_cons] at hso
      rcases List.mem_cons.mp (by rw [← hp]; exact mem_places.mpr hi : i ∈ k :: L) with rfl | h
      · exact Rat.le_refl
      · have := hso.1 i h
        unfold ltp at this
        grind
/-! ## more share, more worst value -/
theorem thr_mono {c v : Nat → Rat} {s t : Rat} {n : Nat} (hc : ∀ i, i < n → 0 ≤ c i) (h0 : 0 < s) (h : s ≤ t) (x : Rat) : thr c v s n x ≤ thr c v t n x := by
  have hsh : 0 ≤ shortF c v n x := by
    unfold shortF
    have : ∀ m, m ≤ n → 0 ≤ sm m fun i => if v i < x then c i * (x - v i) else 0 := by
      intro m
      induction m with
      | zero => intro _; exact Rat.le_refl
      | succ m ih =>
        intro hm
        have a := ih (by omega)
        have b : (0 : Rat) ≤ if v m < x then c m * (x - v m) else 0 := by
          split
          · exact Rat.mul_nonneg (hc m (by omega)) (by grind)
          · exact Rat.le_refl
        show 0 ≤ sm m _ + _
        grind
    exact this n (Nat.le_refl _)
  unfold thr
  have hi : t⁻¹ ≤ s⁻¹ := by
    have a : s * s⁻¹ = 1 := Rat.mul_inv_cancel _ (by grind)
    have b : t * t⁻¹ = 1 := Rat.mul_inv_cancel _ (by grind)
    have ps : 0 < s⁻¹ := Rat.inv_pos.mpr h0
    have pt : 0 < t⁻¹ := Rat.inv_pos.mpr (by grind)
    have e : s * t⁻¹ ≤ t * t⁻¹ := Rat.mul_le_mul_of_nonneg_right h (by grind)
    have e2 : s⁻¹ * (s * t⁻¹) ≤ s⁻¹ * (t * t⁻¹) := Rat.mul_le_mul_of_nonneg_left e (by grind)
    rw [b, Rat.mul_one, ← Rat.mul_assoc, Rat.mul_comm s⁻¹ s, a, Rat.one_mul] at e2
    exact e2
  have := Rat.mul_le_mul_of_nonneg_left hi hsh
  simp only [Rat.div_def]
  grind
theorem wsh_mono {c v : Nat → Rat} {s t : Rat} {n : Nat} (hn : 0 < n) (hc : ∀ i, i < n → 0 ≤ c i) (h0 : 0 < s) (h : s ≤ t) (h1 : t ≤ sm n c) : wsh c v s n ≤ wsh c v t n := by
  obtain ⟨k, hk, e⟩ := wsh_at (v := v) hn hc h0 (by grind)
  rw [← e]
  exact Rat.le_trans (thr_mono hc h0 h _) (wsh_ge hc (by grind) h1 _)
/-- and it is monotone in the values -/
theorem shortF_anti {c u v : Nat → Rat} {x : Rat} : ∀ n, (∀ i, i < n → 0 ≤ c i) → (∀ i, i < n → u i ≤ v i) → shortF c v n x ≤ shortF c u n x
  | 0, _, _ => Rat.le_refl
  | n + 1, hc, h => by
    have ih := shortF_anti (x := x) n (fun i hi => hc i (by omega)) (fun i hi => h i (by omega))
    show sm n _ + (if v n < x then c n * (x - v n) else 0) ≤ sm n _ + (if u n < x then c n * (x - u n) else 0)
    have a := h n (by omega)
    have cn := hc n (by omega)
    have b : (if v n < x then c n * (x - v n) else 0) ≤ (if u n < x then c n * (x - u n) else 0) := by
      by_cases e : v n < x
      · have e2 : u n < x := by grind
        rw [if_pos e, if_pos e2]
        exact Rat.mul_le_mul_of_nonneg_left (by grind) cn
      · rw [if_neg e]
        split
        · exact Rat.mul_nonneg cn (by grind)
        · exact Rat.le_refl
    unfold shortF at ih
    grind
theorem wsh_vals {c u v : Nat → Rat} {s : Rat} {n : Nat} (hn : 0 < n) (hc : ∀ i, i < n → 0 ≤ c i) (h0 : 0 < s) (h1 : s ≤ sm n c) (h : ∀ i, i < n → u i ≤ v i) : wsh c u s n ≤ wsh c v s n := by
  obtain ⟨k, hk, e⟩ := wsh_at (v := u) hn hc h0 h1
  rw [← e]
  refine Rat.le_trans ?_ (wsh_ge (v := v) hc h0 h1 (u k))
  unfold thr
  have := shortF_anti (x := u k) n hc h
  have hi : 0 ≤ s⁻¹ := by have := Rat.inv_pos.mpr h0; grind
  have := Rat.mul_le_mul_of_nonneg_right this hi
  simp only [Rat.div_def]
  grind
end DL
set_option Elab.async false
set_option linter.all false
set_option autoImplicit false
set_option maxRecDepth 100000
namespace DL
open PySem PySem.Spec
open PyProof.Rows hiding St
open L2
local macro_rules | `(tactic| lcg_off) => `(tactic| simp only [mVar, mC, mNil, mCons, mTup, mTupF, mLst, mFz, mOp, oI0, oI, oEq, oNe, oIsN, oNotN, oIsB, oIsNotB, oCatT, oCatL, oRepT, mRepL, mIx, mSq, mOwn, mTst, mAnd, mOr, mNot, mAndV, mOrV, mNotV, mIf, mNeg, mCall, mCB, cAbs, cInt, mLen, mTupO, mLstO, mLrg1, mSum, mAny, mAll, mIndex, mNoP, mPart, mSlT, mSlL, mIsi, mDGet, mDisp, mPairs, mWeak, mSeqI, mRange1, mRange2, mYes, gNm, gTupD, gConsD, gNilD, mLc, mNext, mSeq, mBreak, mCont, mAsg, mSet, mSetOw, mPar, mPar3, mParO, mParO1, mParOO, mDrop, mRet, mRetN, mIfS, mGive, mApp, mSetIx, mIns, mRem, isOw, onOw, mEqQ, mNeQ, mNewT, mPutT, onDt, mGetT, mFor, startD, List.map_cons, List.map_nil, List.length_cons, List.length_nil, List.cons_append, List.nil_append, List.getElem?_cons_zero, List.getElem?_cons_succ, List.set_cons_zero, List.set_cons_succ, List.replicate_succ, List.replicate_zero, Nat.reduceAdd, Nat.reduceSub, Nat.zero_add, Nat.sub_self, decide_eq_true_eq, Bool.not_eq_true, Bool.not_eq_eq_eq_not, if_true, if_false, ite_true, ite_false, Bool.false_eq_true, noOw, wipeD, List.all_cons, List.all_nil, Bool.and_true, true_and, and_true, D.isNon, Bool.not_true, Bool.not_false])
/-! ## sums over a tree -/
theorem sm_add (f g : Nat → Rat) : ∀ n, sm n (fun i => f i + g i) = sm n f + sm n g
  | 0 => by show (0 : Rat) = 0 + 0; grind
  | n + 1 => by
    show sm n _ + (f n + g n) = sm n f + f n + (sm n g + g n)
    rw [sm_add f g n]; grind
theorem sm_at {x : Rat} {a : Nat} (p : Prop) [Decidable p] : ∀ n, a < n → sm n (fun i => if p ∧ a = i then x else 0) = if p then x else 0
  | 0, h => by omega
  | n + 1, h => by
    show sm n _ + (if p ∧ a = n then x else 0) = _
    by_cases e : a = n
    · have : sm n (fun i => if p ∧ a = i then x else 0) = 0 := by
        have : ∀ m, m ≤ n → sm m (fun i => if p ∧ a = i then x else 0) = 0 := by
          intro m
          induction m with
          | zero => intro _; rfl
          | succ m ih =>
            intro hm
            show sm m _ + (if p ∧ a = m then x else 0) = (0 : Rat)
            rw [ih (by omega), if_neg (fun z => by omega)]
            grind
        exact this n (Nat.le_refl _)
      rw [this]
      by_cases hp : p
      · rw [if_pos ⟨hp, e⟩, if_pos hp]; grind
      · rw [if_neg (fun z => hp z.1), if_neg hp]; grind
    · rw [sm_at p n (by omega), if_neg (show ¬ (p ∧ a = n) from fun z => e z.2)]; grind
theorem sum_kids {n : Nat} {par : Nat → Nat} (f : Nat → Rat) : ∀ m, (∀ j, 0 < j → j < m → par j < n) → sm n (fun k => lsm (kids m par k) f) = sm m fun j => if j = 0 then 0 else f j
  | 0, _ => by
    have : ∀ n, sm n (fun k => lsm (kids 0 par k) f) = 0 := by
      intro n
      induction n with
      | zero => rfl
      | succ n ih => show sm n _ + 0 = (0 : Rat); rw [ih]; grind
    exact this n
  | m + 1, h => by
    have ih := sum_kids f m fun j a b => h j a (by omega)
    have e : (fun k => lsm (kids (m + 1) par k) f) = fun k => lsm (kids m par k) f + if m ≠ 0 ∧ par m = k then f m else 0 := funext fun k => by
      rw [kids_succ, lsm_app]
      congr 1
      split
      · show f m + 0 = f m; grind
      · rfl
    rw [e, sm_add, ih]
    show _ = sm m _ + if m = 0 then 0 else f m
    by_cases hm : m = 0
    · subst hm
      have : ∀ n, sm n (fun i => if (0 : Nat) ≠ 0 ∧ par 0 = i then f 0 else 0) = 0 := by
        intro n
        induction n with
        | zero => rfl
        | succ n ih =>
          show sm n _ + (if (0 : Nat) ≠ 0 ∧ par 0 = n then f 0 else 0) = (0 : Rat)
          rw [ih, if_neg (fun z => z.1 rfl)]; grind
      rw [this, if_pos rfl]
    · rw [sm_at (m ≠ 0) n (h m (by omega) (by omega)), if_pos hm, if_neg hm]
theorem sm_idx (g : Nat → Nat → Rat) {L : List Nat} (h : L.Nodup) : sm L.length (fun i => g i (L.getD i 0)) = lsm L fun j => g (L.idxOf j) j := by
  rw [← sumQ_range, ← sumQ_lsm]
  congr 1
  apply List.ext_getElem
  · simp
  · intro i h1 h2
    have hi : i < L.length := by simpa using h1
    rw [List.getElem_map, List.getElem_map, List.getElem_range]
    have e : L.getD i 0 = L[i] := by rw [List.getD_eq_getElem?_getD, List.getElem?_eq_getElem hi]; rfl
    have e2 : L.idxOf L[i] = i := List.Nodup.idxOf_getElem h i hi
    rw [e, e2]
theorem up_lt {n : Nat} {par : Nat → Nat} (T : WT n par) : ∀ j, 0 < j → j < n → par j < n := fun j a b => by have := T.up j a b; omega
/-- on the kids of k -/
theorem on_kids {n : Nat} {par : Nat → Nat} {ch : Nat → Nat → Rat} {on : Nat → Rat} (T : WT n par) (O : Cond n par ch on) (f : Nat → Rat) (k : Nat) : lsm (kids n par k) (fun j => on j * f j) = on k * sm (klen n par k) fun i => ch k i * f ((kids n par k).getD i 0) := by
  have := sm_idx (fun i j => ch k i * f j) (kids_nodup n par k)
  unfold klen
  rw [this]
  have h2 : ∀ L : List Nat, (∀ j ∈ L, j ∈ kids n par k) → lsm L (fun j => on j * f j) = on k * lsm L fun j => ch k ((kids n par k).idxOf j) * f j := by
    intro L
    induction L with
    | nil => intro _; show (0 : Rat) = on k * 0; grind
    | cons a L ih =>
      intro hL
      obtain ⟨h1, h2, h3⟩ := mem_kids.mp (hL a List.mem_cons_self)
      have e := O.up a (by omega) h1
      unfold ixOf at e
      rw [h3] at e
      rw [lsm, lsm, ih fun j hj => hL j (List.mem_cons_of_mem _ hj), e]
      grind
  exact h2 _ fun j hj => hj
theorem sm0 {n : Nat} (h : 0 < n) (f : Nat → Rat) : sm n (fun j => if j = 0 then 0 else f j) = sm n f - f 0 := by
  induction n with
  | zero => omega
  | succ n ih =>
    show sm n _ + (if n = 0 then 0 else f n) = sm n f + f n - f 0
    by_cases e : n = 0
    · subst e
      rw [if_pos rfl]
      show (0 : Rat) + 0 = 0 + f 0 - f 0
      grind
    · rw [ih (by omega), if_neg e]; grind
/-- share one: the mean -/
theorem C_one {n : Nat} {par : Nat → Nat} {ch : Nat → Nat → Rat} {on row C : Nat → Rat} (T : WT n par) (W : GoodCh n par ch) (O : Cond n par ch on) (E : CEq n par ch row 1 C) : C 0 = sm n fun k => row k * on k := by
  have h1 := sum_kids (n := n) (par := par) (fun j => on j * C j) n (up_lt T)
  have h2 : sm n (fun k => lsm (kids n par k) fun j => on j * C j) = sm n fun k => on k * C k + (-1) * (row k * on k) := sm_congr fun k hk => by
    rw [on_kids T O]
    have Ek := E k hk
    by_cases h0 : kids n par k = []
    · rw [if_pos h0] at Ek
      have : klen n par k = 0 := by unfold klen; rw [h0]; rfl
      rw [this, Ek]
      show on k * 0 = _
      grind
    · rw [if_neg h0, wsh_one (fun i hi => Rat.le_of_lt (W.pos k hk i hi)) (W.one k hk h0)] at Ek
      have e : sm (klen n par k) (fun i => ch k i * kv n par k C i) = (-1) * sm (klen n par k) fun i => ch k i * C ((kids n par k).getD i 0) := by
        rw [← sm_mul]
        refine sm_congr fun i _ => ?_
        unfold kv; grind
      rw [e] at Ek
      rw [Ek]; grind
  rw [h1, sm0 T.n0, sm_add, sm_mul, O.o0] at h2
  grind
/-- the leaves take it all -/
theorem lsm_filter (p : Nat → Bool) (f : Nat → Rat) : ∀ n, lsm ((List.range n).filter p) f = sm n fun k => if p k = true then f k else 0
  | 0 => rfl
  | n + 1 => by
    rw [List.range_succ, List.filter_append, lsm_app, lsm_filter p f n]
    show _ = sm n _ + (if p n = true then f n else 0)
    congr 1
    rw [List.filter_cons]
    by_cases h : p n = true
    · rw [if_pos h, if_pos h]; show f n + 0 = f n; grind
    · rw [if_neg h, if_neg h]; rfl
theorem leaves_one {n : Nat} {par : Nat → Nat} {ch : Nat → Nat → Rat} {on : Nat → Rat} (T : WT n par) (W : GoodCh n par ch) (O : Cond n par ch on) : lsm ((List.range n).filter fun k => decide (kids n par k = [])) on = 1 := by
  have h1 := sum_kids (n := n) (par := par) (fun j => on j * 1) n (up_lt T)
  have h2 : sm n (fun k => lsm (kids n par k) fun j => on j * 1) = sm n fun k => on k * 1 + (-1) * (if decide (kids n par k = []) = true then on k else 0) := sm_congr fun k hk => by
    rw [on_kids T O]
    by_cases h0 : kids n par k = []
    · have : klen n par k = 0 := by unfold klen; rw [h0]; rfl
      rw [this, if_pos (decide_eq_true h0)]
      show on k * 0 = _
      grind
    · have e : sm (klen n par k) (fun i => ch k i * 1) = 1 := by
        rw [sm_congr (g := ch k) fun i _ => Rat.mul_one _]
        exact W.one k hk h0
      rw [e, if_neg (fun z => h0 (of_decide_eq_true z))]; grind
  rw [h1, sm0 T.n0, sm_add, sm_mul, O.o0] at h2
  rw [lsm_filter]
  grind
/-- tiny share: the greatest -/
theorem C_tiny {n : Nat} {par : Nat → Nat} {ch : Nat → Nat → Rat} {row C G : Nat → Rat} {s : Rat} (T : WT n par) (W : GoodCh n par ch) (E : CEq n par ch row s C) (EG : GEq n par row G) (h0 : 0 < s) (hs : ∀ k, k < n → ∀ i, i < klen n par k → s < ch k i) : ∀ k, k < n → C k = G k := by
  have : ∀ N k, n - k < N → k < n → C k = G k := by
    intro N
    induction N with
    | zero => intro k h; omega
    | succ N ih =>
      intro k hN hk
      have Ek := E k hk
      have Eg := EG k hk
      have hkids : ∀ j ∈ kids n par k, C j = G j := fun j hj => by
        obtain ⟨a, b, c⟩ := mem_kids.mp hj
        have := T.up j (by omega) a
        exact ih j (by omega) a
      by_cases hn : kids n par k = []
      · rw [if_pos hn] at Ek
        rw [hn] at Eg
        rw [Ek, Eg]
        show _ = row k + 0
        grind
      · rw [if_neg hn] at Ek
        obtain ⟨i, hi, e1, e2⟩ := wsh_tiny (v := kv n par k C) (klen_pos hn) h0 (hs k hk)
        rw [e1] at Ek
        rw [Ek, Eg]
        have hm : mostL ((kids n par k).map G) = C ((kids n par k).getD i 0) := by
          have hmem : C ((kids n par k).getD i 0) ∈ (kids n par k).map G := List.mem_map.mpr ⟨_, kid_at hi, (hkids _ (kid_at hi)).symm⟩
          have hle : ∀ x ∈ (kids n par k).map G, x ≤ C ((kids n par k).getD i 0) := fun x hx => by
            obtain ⟨j, hj, rfl⟩ := List.mem_map.mp hx
            rw [← hkids j hj]
            have hlt : (kids n par k).idxOf j < klen n par k := List.idxOf_lt_length_iff.mpr hj
            have := e2 _ hlt
            unfold kv at this
            have e : (kids n par k).getD ((kids n par k).idxOf j) 0 = j := by
              have hlt' : (kids n par k).idxOf j < (kids n par k).length := hlt
              rw [List.getD_eq_getElem?_getD, List.getElem?_eq_getElem hlt']
              exact List.getElem_idxOf hlt'
            rw [e] at this
            grind
          cases hL : (kids n par k).map G with
          | nil => rw [hL] at hmem; cases hmem
          | cons q qs =>
            rw [hL] at hmem hle
            exact mostF_eq hmem hle
        rw [hm]
        unfold kv; grind
  intro k hk
  exact this (n - k + 1) k (by omega) hk
/-- a greater share costs less -/
theorem C_mono {n : Nat} {par : Nat → Nat} {ch : Nat → Nat → Rat} {row C B : Nat → Rat} {s t : Rat} (T : WT n par) (W : GoodCh n par ch) (E : CEq n par ch row s C) (EB : CEq n par ch row t B) (h0 : 0 < s) (h : s ≤ t) (h1 : t ≤ 1) : ∀ k, k < n → B k ≤ C k := by
  have : ∀ N k, n - k < N → k < n → B k ≤ C k := by
    intro N
    induction N with
    | zero => intro k h; omega
    | succ N ih =>
      intro k hN hk
      have Ek := E k hk
      have Eb := EB k hk
      by_cases hn : kids n par k = []
      · rw [if_pos hn] at Ek Eb
        rw [Ek, Eb]; exact Rat.le_refl
      · rw [if_neg hn] at Ek Eb
        have hc : ∀ i, i < klen n par k → 0 ≤ ch k i := fun i hi => Rat.le_of_lt (W.pos k hk i hi)
        have h3 := W.one k hk hn
        have a := wsh_vals (c := ch k) (u := kv n par k C) (v := kv n par k B) (s := s) (klen_pos hn) hc h0 (by grind) fun i hi => by
          obtain ⟨x, y, z⟩ := mem_kids.mp (kid_at hi)
          have := T.up _ (by omega) x
          have := ih _ (by omega) x
          unfold kv; grind
        have b := wsh_mono (c := ch k) (v := kv n par k B) (klen_pos hn) hc h0 h (by grind)
        rw [Ek, Eb]
        grind
  intro k hk
  exact this (n - k + 1) k (by omega) hk
theorem share_big {s : Rat} (h : Sz 6 s) (h0 : 0 < s) : 1 / 1000 ≤ s := by
  refine Rat.le_of_lt ?_
  rw [Rat.lt_iff]
  have h1 : (1 / 1000 : Rat).num = 1 := by decide +kernel
  have h2 : (1 / 1000 : Rat).den = 1000 := by decide +kernel
  rw [h1, h2]
  have h3 : 0 < s.num := by
    have := Rat.num_nonneg (q := s)
    have h5 := this.mpr (by grind)
    have : s.num ≠ 0 := fun z => by
      have := Rat.num_eq_zero.mp z
      grind
    omega
  have h4 : s.den < 64 := h.2
  omega
end DL
set_option Elab.async false
set_option linter.all false
set_option autoImplicit false
set_option maxRecDepth 100000
namespace DL
open PySem PySem.Spec
open PyProof.Rows hiding St
open L2
local macro_rules | `(tactic| lcg_off) => `(tactic| simp only [mVar, mC, mNil, mCons, mTup, mTupF, mLst, mFz, mOp, oI0, oI, oEq, oNe, oIsN, oNotN, oIsB, oIsNotB, oCatT, oCatL, oRepT, mRepL, mIx, mSq, mOwn, mTst, mAnd, mOr, mNot, mAndV, mOrV, mNotV, mIf, mNeg, mCall, mCB, cAbs, cInt, mLen, mTupO, mLstO, mLrg1, mSum, mAny, mAll, mIndex, mNoP, mPart, mSlT, mSlL, mIsi, mDGet, mDisp, mPairs, mWeak, mSeqI, mRange1, mRange2, mYes, gNm, gTupD, gConsD, gNilD, mLc, mNext, mSeq, mBreak, mCont, mAsg, mSet, mSetOw, mPar, mPar3, mParO, mParO1, mParOO, mDrop, mRet, mRetN, mIfS, mGive, mApp, mSetIx, mIns, mRem, isOw, onOw, mEqQ, mNeQ, mNewT, mPutT, onDt, mGetT, mFor, startD, List.map_cons, List.map_nil, List.length_cons, List.length_nil, List.cons_append, List.nil_append, List.getElem?_cons_zero, List.getElem?_cons_succ, List.set_cons_zero, List.set_cons_succ, List.replicate_succ, List.replicate_zero, Nat.reduceAdd, Nat.reduceSub, Nat.zero_add, Nat.sub_self, decide_eq_true_eq, Bool.not_eq_true, Bool.not_eq_eq_eq_not, if_true, if_false, ite_true, ite_false, Bool.false_eq_true, noOw, wipeD, List.all_cons, List.all_nil, Bool.and_true, true_and, and_true, D.isNon, Bool.not_true, Bool.not_false])
def HK (n : Nat) (par : Nat → Nat) (pr : Nat → Rat) (mo : D) : List (Str × D) := [("things", .tup [.str "coin"]), ("nodes", .tup (nodesD n par pr)), ("moment", mo), ("ahead", .lst (fl n fun k => .lst (natsD (kids n par k))))]
theorem HK_nodes (n : Nat) (par : Nat → Nat) (pr : Nat → Rat) (mo : D) (Q : D → Prop) : lookD (HK n par pr mo) (Str.ofString "nodes") Q = Q (.tup (nodesD n par pr)) := rfl
theorem HK_ahead (n : Nat) (par : Nat → Nat) (pr : Nat → Rat) (mo : D) (Q : D → Prop) : lookD (HK n par pr mo) (Str.ofString "ahead") Q = Q (.lst (fl n fun k => .lst (natsD (kids n par k)))) := rfl
theorem HK_eq (n : Nat) (par : Nat → Nat) (pr : Nat → Rat) (mo : D) : houseD n par pr mo = .dct (HK n par pr mo) := rfl
theorem All2_at {R : D → D → Prop} : ∀ {xs ys : List D}, All2 R xs ys → ∀ i (h : i < xs.length), ∃ y, ys[i]? = some y ∧ R xs[i] y
  | _, _, .nil => fun i h => by simp at h
  | _, _, .cons h t => fun i hi => by
    cases i with
    | zero => exact ⟨_, rfl, h⟩
    | succ i => exact All2_at t i (by simpa using hi)
theorem rows_of_rel {n : Nat} {len : Nat → Nat} {P : Nat → (Nat → Rat) → Prop} {ys : List D} (h : All2 (fun x y => ∃ c, y = D.tup (vec (len (nOf x)) c) ∧ P (nOf x) c) (ixs n) ys) : ∃ ch : Nat → Nat → Rat, ys = rows n len ch ∧ ∀ k, k < n → P k (ch k) := by
  have hl := All2_get h
  rw [ixs_length] at hl
  have h2 : ∀ k, ∃ c : Nat → Rat, k < n → ys[k]? = some (D.tup (vec (len k) c)) ∧ P k c := by
    intro k
    by_cases hk : k < n
    · obtain ⟨y, e, c, e2, hp⟩ := All2_at h k (by rw [ixs_length]; exact hk)
      have ek : (ixs n)[k]'(by rw [ixs_length]; exact hk) = .int ((k : Nat) : Int) := by simp [ixs]
      rw [ek, nOf_int] at e2 hp
      exact ⟨c, fun _ => ⟨by rw [e, e2], hp⟩⟩
    · exact ⟨fun _ => 0, fun z => absurd z hk⟩
  obtain ⟨ch, hch⟩ := Classical.axiomOfChoice h2
  refine ⟨ch, ?_, fun k hk => (hch k hk).2⟩
  apply List.ext_getElem?
  intro k
  by_cases hk : k < n
  · rw [(hch k hk).1]
    unfold rows
    rw [List.getElem?_map, List.getElem?_range hk]; rfl
  · rw [List.getElem?_eq_none (by omega), List.getElem?_eq_none (by rw [rows_len]; omega)]
theorem atD_ah {n k : Nat} {par : Nat → Nat} (h : k < n) (Q : D → Prop) : atD (fl n fun k => .lst (natsD (kids n par k))) ((k : Nat) : Int) Q = Q (.lst (natsD (kids n par k))) := atD_fl h Q
theorem natsD_nil (L : List Nat) : (natsD L).isEmpty = decide (L = []) := by cases L <;> rfl
def F0 : SD := (mSeq (mSet 9 (mIx (mSq (mIx (mSq (mDGet (mVar 1) (mC (.str "nodes")))) (mVar 5))) (mC (.int 0)))) (mApp 8 (mIf (mTst (mOp oIsN (mVar 9) (mC .non))) (mTup (mCons (mC (.int 1)) (mCons (mC (.int 1)) mNil))) (mCall (fBinL (· * ·)) (mCons (mIx (mOwn 8) (mVar 9)) (mCons (mIx (mSq (mIx (mSq (mVar 4)) (mVar 9))) (mIndex (mSq (mIx (mSq (mDGet (mVar 1) (mC (.str "ahead")))) (mVar 9))) (mVar 5))) mNil))))))
def F2 : SD := (mSeq (mSetIx 14 (mVar 5) (mIx (mSq (mVar 6)) (mVar 5))) (mIfS (mTst (mOp oNe (mIx (mSq (mDGet (mVar 1) (mC (.str "ahead")))) (mVar 5)) (mFz (mLst mNil)))) (mSeq (mSet 15 (mFz (mLc [16] (mSeqI (mSq (mIx (mSq (mDGet (mVar 1) (mC (.str "ahead")))) (mVar 5)))) (gNm 16) mYes (mCall (fBinL (· - ·)) (mCons (mTup (mCons (mC (.int 0)) (mCons (mC (.int 1)) mNil))) (mCons (mIx (mOwn 14) (mVar 16)) mNil)))))) (mSetIx 14 (mVar 5) (mCall (fBinL (· - ·)) (mCons (mIx (mSq (mVar 6)) (mVar 5)) (mCons (mCall fThr (mCons (mVar 15) (mCons (mIx (mSq (mVar 4)) (mVar 5)) (mCons (mWeak (mVar 13)) mNil)))) mNil))))) mNext))
def F3 : SD := (mSetIx 17 (mVar 5) (mCall fAddG (mCons (mIx (mSq (mVar 6)) (mVar 5)) (mCons (mIf (mTst (mOp oNe (mIx (mSq (mDGet (mVar 1) (mC (.str "ahead")))) (mVar 5)) (mFz (mLst mNil)))) (mCall fMost (mCons (mFz (mLc [16] (mSeqI (mSq (mIx (mSq (mDGet (mVar 1) (mC (.str "ahead")))) (mVar 5)))) (gNm 16) mYes (mIx (mOwn 17) (mVar 16)))) mNil)) (mTup (mCons (mC (.int 0)) (mCons (mC (.int 1)) mNil)))) mNil))))
theorem on_loop {al : List D} {De : EndsD} {p : Addr} {n : Nat} {par : Nat → Nat} {pr : Nat → Rat} {mo : D} {ch : Nat → Nat → Rat} {row on : Nat → Rat} {s : Rat} {e10 e11 e12 e13 e14 e15 e16 e17 e18 e19 e20 e21 e22 e23 : EV} (T : WT n par) (W : GoodCh n par ch) (O : Cond n par ch on) :
    ∀ (r k : Nat) (e5 e9 : EV), k + r = n → (∀ p c, e5 ≠ .ow p c) → (∀ e5 e9, (∀ p c, e5 ≠ .ow p c) → De.nx [.fz .tok, .fz (.dct (HK n par pr mo)), .fz (treeD n par pr), .fz (.int (n : Int)), .fz (.tup (rows n (klen n par) ch)), e5, .fz (.tup (vec n row)), .fz (.tupF [.int s.num, .int (s.den : Int)]), .ow p (.lst (vec n on)), e9, e10, e11, e12, e13, e14, e15, e16, e17, e18, e19, e20, e21, e22, e23]) →
    forD none al (gNm 5) F0 De ((List.range' k r).map fun i => D.int ((i : Nat) : Int)) [.fz .tok, .fz (.dct (HK n par pr mo)), .fz (treeD n par pr), .fz (.int (n : Int)), .fz (.tup (rows n (klen n par) ch)), e5, .fz (.tup (vec n row)), .fz (.tupF [.int s.num, .int (s.den : Int)]), .ow p (.lst (vec k on)), e9, e10, e11, e12, e13, e14, e15, e16, e17, e18, e19, e20, e21, e22, e23]
  | 0, k, e5, e9, hk, h5, hQ => by
    have : k = n := by omega
    subst this
    exact ⟨trivial, hQ _ _ h5⟩
  | r + 1, k, e5, e9, hk, h5, hQ => by
    have hk' : k < n := by omega
    have hn9 := T.n9
    have ih := fun e5 e9 h5 => on_loop (al := al) (De := De) (p := p) (pr := pr) (mo := mo) (row := row) (s := s) T W O r (k + 1) e5 e9 (by omega) h5 hQ
    rw [List.range'_succ, List.map_cons]
    refine ⟨trivial, ?_⟩
    unfold F0
    lcg_off
    rw [HK_nodes]
    dsimp only
    rw [atD_nodes hk']
    have e : nodeD par pr k = .tup [backD par k, .tup [encQ (pr k)]] := rfl
    rw [e]
    dsimp only
    rw [atD0]
    by_cases h0 : k = 0
    · have eb : backD par k = .non := by unfold backD; rw [if_pos h0]
      rw [eb]
      dsimp only
      simp only [if_true]
      rw [enc11]
      refine ⟨by decide, by rw [vec_length]; omega, ?_⟩
      have := ih (.fz (.int ((k : Nat) : Int))) (.fz .non) (fun p c z => by cases z)
      rw [vec_succ, h0, O.o0] at this
      rw [h0]
      exact this
    · have eb : backD par k = .int ((par k : Nat) : Int) := by unfold backD; rw [if_neg h0]
      have hp := T.up k (by omega) hk'
      rw [eb]
      dsimp only
      simp only [Bool.false_eq_true, if_false]
      rw [atD_vec hp, atD_rows (show par k < n by omega)]
      dsimp only
      rw [HK_ahead]
      dsimp only
      rw [atD_ah (show par k < n by omega)]
      dsimp only
      rw [intsOf_nats]
      dsimp only
      refine ⟨List.mem_map.mpr ⟨k, mem_kids.mpr ⟨hk', h0, rfl⟩, rfl⟩, ?_⟩
      have hix := ixOf_lt (par := par) h0 hk'
      have hix' : List.idxOf k (kids n par (par k)) < klen n par (par k) := hix
      rw [idxOf_cast, atD_vec hix']
      refine ⟨_, _, 19, 6, rfl, on_sz T O W.sz _ (by omega), W.sz _ (by omega) _ hix, by decide, ?_⟩
      dsimp only
      refine ⟨by rw [vec_length]; omega, ?_⟩
      have := ih (.fz (.int ((k : Nat) : Int))) (.fz (.int ((par k : Nat) : Int))) (fun p c z => by cases z)
      rw [vec_succ, O.up k (by omega) hk'] at this
      exact this
theorem cost_in {al : List D} {De : EndsD} {q : Addr} {n : Nat} {par : Nat → Nat} {pr : Nat → Rat} {mo : D} {ch : Nat → Nat → Rat} {row C : Nat → Rat} {s t : Rat} {e8 e9 e10 e11 e12 e16 e17 e18 e19 e20 e21 e22 e23 : EV} (T : WT n par) (W : GoodCh n par ch) (E : CEq n par ch row t C) (hr : ∀ i, i < n → Sz 2 (row i)) (ht : Sz 10 t) (ht0 : 0 < t) (ht1 : t ≤ 1) (h16 : ∀ p c, e16 ≠ .ow p c) :
    ∀ (m : Nat) (e5 e15 : EV), m ≤ n → (∀ p c, e5 ≠ .ow p c) → (∀ e5 e15, (∀ p c, e5 ≠ .ow p c) → De.nx [.fz .tok, .fz (.dct (HK n par pr mo)), .fz (treeD n par pr), .fz (.int (n : Int)), .fz (.tup (rows n (klen n par) ch)), e5, .fz (.tup (vec n row)), .fz (.tupF [.int s.num, .int (s.den : Int)]), e8, e9, e10, e11, e12, .fz (.tupF [.int t.num, .int (t.den : Int)]), .ow q (.lst (vec n C)), e15, e16, e17, e18, e19, e20, e21, e22, e23]) →
    forD none al (gNm 5) F2 De (dwn m) [.fz .tok, .fz (.dct (HK n par pr mo)), .fz (treeD n par pr), .fz (.int (n : Int)), .fz (.tup (rows n (klen n par) ch)), e5, .fz (.tup (vec n row)), .fz (.tupF [.int s.num, .int (s.den : Int)]), e8, e9, e10, e11, e12, .fz (.tupF [.int t.num, .int (t.den : Int)]), .ow q (.lst (fl n (hlf C m))), e15, e16, e17, e18, e19, e20, e21, e22, e23]
  | 0, e5, e15, _, h5, hQ => by
    rw [hlf_0]
    exact ⟨trivial, hQ _ _ h5⟩
  | k + 1, e5, e15, hm, h5, hQ => by
    have hk : k < n := by omega
    have hn9 := T.n9
    have hkl := kids_len n par k
    rw [dwn_succ]
    refine ⟨trivial, ?_⟩
    have ih := fun e5 e15 h5 => cost_in (al := al) (De := De) (q := q) (pr := pr) (mo := mo) (s := s) T W E hr ht ht0 ht1 h16 k e5 e15 (by omega) h5 hQ
    have Ek := E k hk
    unfold F2
    lcg_off
    rw [atD_vec hk]
    rw [fl_len, ixN_nat hk]
    (try dsimp only)
    rw [fl_set, HK_ahead]
    (try dsimp only)
    rw [atD_ah hk]
    (try dsimp only)
    rw [eqv_nil, natsD_nil]
    refine ⟨by decide, pl_nats _, rfl, ?_⟩
    by_cases h0 : kids n par k = []
    · rw [decide_eq_true h0]
      simp only [Bool.true_eq_false, if_false]
      rw [if_pos h0] at Ek
      rw [← Ek, hlf_step1]
      exact ih _ _ (fun p c z => by cases z)
    · rw [decide_eq_false h0]
      simp only [if_true]
      rw [if_neg h0] at Ek
      rw [HK_ahead]
      (try dsimp only)
      rw [atD_ah hk]
      (try dsimp only)
      refine ⟨by cases e16 <;> first | rfl | exact absurd rfl (h16 _ _), by rw [natsD_len]; omega, ?_⟩
      refine compD_map (fun x => encQ (-C (nOf x))) _ _ _ (fun x hx K hK => ?_) ?_
      · obtain ⟨j, hj, rfl⟩ := List.mem_map.mp hx
        rw [nOf_int] at hK
        obtain ⟨h1, h2, h3⟩ := mem_kids.mp hj
        have hup := T.up j (by omega) h1
        lcg_off
        rw [atD_fl h1]
        have e : updD (hlf C (k + 1)) k (encQ (row k)) j = encQ (C j) := by
          unfold updD; rw [if_neg (by omega), hlf_at (by omega)]
        rw [e, enc01]
        have e2 : (0 : Rat) - C j = -C j := by grind
        refine ⟨by decide, _, _, 1, 2909, rfl, sz01, C_sz3 T W E hr ht ht0 ht1 j h1, by decide, ?_⟩
        (try dsimp only)
        rw [e2]
        exact hK
      · rw [List.nil_append, nats_map _ fun j => -C j, encL_kv]
        rw [atD_vec hk, atD_rows hk]
        have k3 := W.k3 k hk
        have hz1 : klen n par k * (6 + (410 + 410 + 1) + 1) ≤ 3 * (6 + (410 + 410 + 1) + 1) := Nat.mul_le_mul_right _ k3
        have wt : (D.tupF [.int t.num, .int (t.den : Int)]).weak = encQ t := rfl
        rw [wt]
        refine ⟨.lst (vec (klen n par k) (kv n par k C)), .tup (vec (klen n par k) (ch k)), klen n par k, kv n par k C, ch k, t, 410, 6, 10, _, rfl, .inl rfl, .inr rfl, (fun i hi => ⟨kv_ok T W E hr ht ht0 ht1 hk i hi, W.sz k hk i hi⟩), ht, ht0, by rw [W.one k hk h0]; exact ht1, (fun i hi => Rat.le_of_lt (W.pos k hk i hi)), klen_pos h0, by omega, rfl, by omega, ?_⟩
        refine ⟨_, _, 2, 2906, rfl, hr k hk, wshk_sz T W E hr ht ht0 ht1 hk h0, by decide, ?_⟩
        (try dsimp only)
        rw [fl_len, ixN_nat hk]
        (try dsimp only)
        rw [fl_set, ← Ek, hlf_step]
        exact ih _ _ (fun p c z => by cases z)
theorem sums_in {al : List D} {De : EndsD} {q : Addr} {n : Nat} {par : Nat → Nat} {pr : Nat → Rat} {mo : D} {ch : Nat → Nat → Rat} {row G : Nat → Rat} {s : Rat} {e8 e9 e10 e11 e12 e13 e14 e15 e16 e18 e19 e20 e21 e22 e23 : EV} (T : WT n par) (E : GEq n par row G) (hr : ∀ i, i < n → Sz 2 (row i)) (h16 : ∀ p c, e16 ≠ .ow p c) :
    ∀ (m : Nat) (e5 : EV), m ≤ n → (∀ p c, e5 ≠ .ow p c) → (∀ e5, (∀ p c, e5 ≠ .ow p c) → De.nx [.fz .tok, .fz (.dct (HK n par pr mo)), .fz (treeD n par pr), .fz (.int (n : Int)), .fz (.tup (rows n (klen n par) ch)), e5, .fz (.tup (vec n row)), .fz (.tupF [.int s.num, .int (s.den : Int)]), e8, e9, e10, e11, e12, e13, e14, e15, e16, .ow q (.lst (vec n G)), e18, e19, e20, e21, e22, e23]) →
    forD none al (gNm 5) F3 De (dwn m) [.fz .tok, .fz (.dct (HK n par pr mo)), .fz (treeD n par pr), .fz (.int (n : Int)), .fz (.tup (rows n (klen n par) ch)), e5, .fz (.tup (vec n row)), .fz (.tupF [.int s.num, .int (s.den : Int)]), e8, e9, e10, e11, e12, e13, e14, e15, e16, .ow q (.lst (fl n (hlf G m))), e18, e19, e20, e21, e22, e23]
  | 0, e5, _, h5, hQ => by
    rw [hlf_0]
    exact ⟨trivial, hQ _ h5⟩
  | k + 1, e5, hm, h5, hQ => by
    have hk : k < n := by omega
    have hn9 := T.n9
    have hkl := kids_len n par k
    rw [dwn_succ]
    refine ⟨trivial, ?_⟩
    have ih := fun e5 h5 => sums_in (al := al) (De := De) (q := q) (pr := pr) (mo := mo) (ch := ch) (s := s) T E hr h16 k e5 (by omega) h5 hQ
    have Ek := E k hk
    have gs := G_sz T E hr
    unfold F3
    lcg_off
    rw [atD_vec hk]
    rw [HK_ahead]
    (try dsimp only)
    rw [atD_ah hk]
    (try dsimp only)
    rw [eqv_nil, natsD_nil]
    refine ⟨by decide, pl_nats _, rfl, ?_⟩
    by_cases h0 : kids n par k = []
    · rw [decide_eq_true h0]
      simp only [Bool.true_eq_false, if_false]
      rw [h0] at Ek
      rw [enc01]
      refine ⟨by decide, addG_q (hr k hk) sz01 (by decide) ?_⟩
      (try dsimp only)
      rw [fl_len, ixN_nat hk]
      (try dsimp only)
      have e : row k + 0 = G k := by rw [Ek]; rfl
      rw [fl_set, e, hlf_step1]
      exact ih _ (fun p c z => by cases z)
    · rw [decide_eq_false h0]
      simp only [if_true]
      rw [HK_ahead]
      (try dsimp only)
      rw [atD_ah hk]
      (try dsimp only)
      refine ⟨by cases e16 <;> first | rfl | exact absurd rfl (h16 _ _), by rw [natsD_len]; omega, ?_⟩
      refine compD_map (fun x => encQ (G (nOf x))) _ _ _ (fun x hx K hK => ?_) ?_
      · obtain ⟨j, hj, rfl⟩ := List.mem_map.mp hx
        rw [nOf_int] at hK
        obtain ⟨h1, h2, h3⟩ := mem_kids.mp hj
        have hup := T.up j (by omega) h1
        lcg_off
        rw [atD_fl h1, hlf_at (by omega)]
        exact hK
      · rw [List.nil_append, nats_map]
        have hgk : ∀ q ∈ (kids n par k).map G, Sz 13 q := fun q hq => by
          obtain ⟨j, hj, rfl⟩ := List.mem_map.mp hq
          exact gs j (mem_kids.mp hj).1
        have hne : (kids n par k).map G ≠ [] := fun z => h0 (List.map_eq_nil_iff.mp z)
        generalize (kids n par k).map G = L at hgk hne Ek
        cases L with
        | nil => exact absurd rfl hne
        | cons q0 L =>
          refine ⟨.lst (encL (q0 :: L)), q0, L, 13, rfl, .inl rfl, hgk, by decide, ?_⟩
          refine addG_q (hr k hk) (mostL_P (P := Sz 13) (sz01.mono (by decide)) hgk) (by decide) ?_
          (try dsimp only)
          rw [fl_len, ixN_nat hk]
          (try dsimp only)
          have e : row k + mostF q0 (q0 :: L) = G k := Ek.symm
          rw [fl_set, e, hlf_step1]
          exact ih _ (fun p c z => by cases z)
end DL
set_option Elab.async false
set_option linter.all false
set_option autoImplicit false
set_option maxRecDepth 100000
namespace DL
open PySem PySem.Spec
open PyProof.Rows hiding St
open L2
local macro_rules | `(tactic| lcg_off) => `(tactic| simp only [mVar, mC, mNil, mCons, mTup, mTupF, mLst, mFz, mOp, oI0, oI, oEq, oNe, oIsN, oNotN, oIsB, oIsNotB, oCatT, oCatL, oRepT, mRepL, mIx, mSq, mOwn, mTst, mAnd, mOr, mNot, mAndV, mOrV, mNotV, mIf, mNeg, mCall, mCB, cAbs, cInt, mLen, mTupO, mLstO, mLrg1, mSum, mAny, mAll, mIndex, mNoP, mPart, mSlT, mSlL, mIsi, mDGet, mDisp, mPairs, mWeak, mSeqI, mRange1, mRange2, mYes, gNm, gTupD, gConsD, gNilD, mLc, mNext, mSeq, mBreak, mCont, mAsg, mSet, mSetOw, mPar, mPar3, mParO, mParO1, mParOO, mDrop, mRet, mRetN, mIfS, mGive, mApp, mSetIx, mIns, mRem, isOw, onOw, mEqQ, mNeQ, mNewT, mPutT, onDt, mGetT, mFor, startD, List.map_cons, List.map_nil, List.length_cons, List.length_nil, List.cons_append, List.nil_append, List.getElem?_cons_zero, List.getElem?_cons_succ, List.set_cons_zero, List.set_cons_succ, List.replicate_succ, List.replicate_zero, Nat.reduceAdd, Nat.reduceSub, Nat.zero_add, Nat.sub_self, decide_eq_true_eq, Bool.not_eq_true, Bool.not_eq_eq_eq_not, if_true, if_false, ite_true, ite_false, Bool.false_eq_true, noOw, wipeD, List.all_cons, List.all_nil, Bool.and_true, true_and, and_true, D.isNon, Bool.not_true, Bool.not_false])
def F1 : SD := (mSeq (mSetOw 14 (mRepL (mFz (mLst (mCons (mC .non) mNil))) (mVar 3))) (mSeq (mFor (mRange3 (mCons (mOp (oI0 fun i j => .int (i - j)) (mVar 3) (mC (.int 1))) (mCons (mNeg (mC (.int 1))) (mCons (mNeg (mC (.int 1))) mNil)))) (gNm 5) (mSeq (mSetIx 14 (mVar 5) (mIx (mSq (mVar 6)) (mVar 5))) (mIfS (mTst (mOp oNe (mIx (mSq (mDGet (mVar 1) (mC (.str "ahead")))) (mVar 5)) (mFz (mLst mNil)))) (mSeq (mSet 15 (mFz (mLc [16] (mSeqI (mSq (mIx (mSq (mDGet (mVar 1) (mC (.str "ahead")))) (mVar 5)))) (gNm 16) mYes (mCall (fBinL (· - ·)) (mCons (mTup (mCons (mC (.int 0)) (mCons (mC (.int 1)) mNil))) (mCons (mIx (mOwn 14) (mVar 16)) mNil)))))) (mSetIx 14 (mVar 5) (mCall (fBinL (· - ·)) (mCons (mIx (mSq (mVar 6)) (mVar 5)) (mCons (mCall fThr (mCons (mVar 15) (mCons (mIx (mSq (mVar 4)) (mVar 5)) (mCons (mWeak (mVar 13)) mNil)))) mNil))))) mNext))) (mGive 14 (mSeq (mIfS (mOr (mTst (mOp oNe (mFz (mLstO (mSq (mCall fWC (mCons (mVar 2) (mCons (mVar 4) (mCons (mWeak (mVar 13)) (mCons (mVar 6) mNil)))))))) (mVar 14))) (mTst (mOp oNe (mCall fWC0 (mCons (mVar 2) (mCons (mVar 4) (mCons (mWeak (mVar 13)) (mCons (mVar 6) mNil))))) (mIx (mSq (mVar 14)) (mC (.int 0)))))) (mRet (mC (.bl false))) mNext) (mPutT 12 (mVar 13) (mIx (mSq (mVar 14)) (mC (.int 0))))))))
def F4 : SD := (mIfS (mTst (mOp oIsNotB (mCall fChs (mCons (mVar 2) (mCons (mOp oCatT (mOp oCatT (mSlT (mVar 4) mNoP (mPart (mVar 5))) (mTup (mCons (mVar 23) mNil))) (mSlT (mVar 4) (mPart (mOp (oI0 fun i j => .int (i + j)) (mVar 5) (mC (.int 1)))) mNoP)) mNil))) (mC (.bl false)))) (mRet (mC (.bl false))) mNext)
theorem told_step {rt : D → Prop} {bk : En → Prop} {p : Addr} {kvs : List (List Key × D)} {n : Nat} {par : Nat → Nat} {pr : Nat → Rat} {mo : D} {ch : Nat → Nat → Rat} {row C : Nat → Rat} {s t : Rat} {e8 e9 e10 e11 e16 e17 e18 e19 e20 e21 e22 e23 e5 e14 e15 : EV} (T : WT n par) (W : GoodCh n par ch) (E : CEq n par ch row t C) (hr : ∀ i, i < n → Sz 2 (row i)) (ht : Sz 10 t) (ht0 : 0 < t) (ht1 : t ≤ 1) (h16 : ∀ p c, e16 ≠ .ow p c) (h5 : ∀ p c, e5 ≠ .ow p c) (hk : kvs.length ≤ 10) (K : En → Prop)
    (hK : ∀ e5 e14 e15, (∀ p c, e5 ≠ .ow p c) → K [.fz .tok, .fz (.dct (HK n par pr mo)), .fz (treeD n par pr), .fz (.int (n : Int)), .fz (.tup (rows n (klen n par) ch)), e5, .fz (.tup (vec n row)), .fz (.tupF [.int s.num, .int (s.den : Int)]), e8, e9, e10, e11, .ow p (.dt (putT kvs [.inl t.num, .inl (t.den : Int)] (encQ (C 0)))), .fz (.tupF [.int t.num, .int (t.den : Int)]), e14, e15, e16, e17, e18, e19, e20, e21, e22, e23]) :
    F1 { nx := K, rt := rt, bk := bk, ct := K } [.fz .tok, .fz (.dct (HK n par pr mo)), .fz (treeD n par pr), .fz (.int (n : Int)), .fz (.tup (rows n (klen n par) ch)), e5, .fz (.tup (vec n row)), .fz (.tupF [.int s.num, .int (s.den : Int)]), e8, e9, e10, e11, .ow p (.dt kvs), .fz (.tupF [.int t.num, .int (t.den : Int)]), e14, e15, e16, e17, e18, e19, e20, e21, e22, e23] := by
  have hn9 := T.n9
  have wt : (D.tupF [.int t.num, .int (t.den : Int)]).weak = encQ t := rfl
  unfold F1
  lcg_off
  refine ⟨by decide, by omega, by omega, by omega, fun q => ?_⟩
  simp only [mRange3]
  lcg_off
  refine ⟨n, rgc_dwn (by omega), ?_⟩
  rw [flat_rep, Int.toNat_natCast, ← hlf_n n C, rng3_dwn]
  refine cost_in T W E hr ht ht0 ht1 h16 n _ _ (Nat.le_refl _) h5 fun e5 e15 h5 => ?_
  lcg_off
  rw [wt]
  refine ⟨n, par, pr, ch, row, C, t, rfl, T, W, E, hr, ht, ht0, ht1, ?_⟩
  (try dsimp only)
  rw [eqv_vecl]
  refine ⟨pl_vecl _ _, pl_vecl _ _, ?_⟩
  simp only [Bool.true_eq_false, if_false]
  refine ⟨n, par, pr, ch, row, C, t, rfl, T, W, E, hr, ht, ht0, ht1, ?_⟩
  (try dsimp only)
  have e0 : ∀ Q : D → Prop, atD (vec n C) 0 Q = Q (encQ (C 0)) := fun Q => atD_vec (i := 0) T.n0 Q
  rw [e0, eqv_encr]
  refine ⟨rfl, rfl, ?_⟩
  simp only [Bool.true_eq_false, if_false]
  rw [e0]
  refine ⟨by omega, ?_⟩
  exact hK _ _ _ h5
theorem cut_pre (xs : List D) {k : Nat} (h : k ≤ xs.length) : cutD xs none (some ((k : Nat) : Int)) = xs.take k := by
  unfold cutD
  rw [HT.sIx_none, HT.sIx_nat, List.drop_zero, Nat.sub_zero, Nat.min_eq_left h]
theorem cut_suf (xs : List D) {k : Nat} (h : k ≤ xs.length) : cutD xs (some ((k : Nat) : Int)) none = xs.drop k := by
  unfold cutD
  rw [HT.sIx_none, HT.sIx_nat, Nat.min_eq_left h]
  exact List.take_of_length_le (by rw [List.length_drop]; omega)
theorem rows_fl (n : Nat) (len : Nat → Nat) (ch : Nat → Nat → Rat) : rows n len ch = fl n fun k => .tup (vec (len k) (ch k)) := rfl
theorem cut_mid {n k : Nat} {g : Nat → D} (d : D) (h : k < n) : cutD (fl n g) none (some ((k : Nat) : Int)) ++ [d] ++ cutD (fl n g) (some (((k : Nat) : Int) + 1)) none = fl n (updD g k d) := by
  rw [cut_pre _ (by rw [fl_len]; omega), show ((k : Nat) : Int) + 1 = ((k + 1 : Nat) : Int) by omega, cut_suf _ (by rw [fl_len]; omega), ← fl_set, List.set_eq_take_append_cons_drop, if_pos (by rw [fl_len]; exact h)]
  simp
def chL (len : Nat → Nat) (ch : Nat → Nat → Rat) : Nat → List Rat := fun k => (List.range (len k)).map (ch k)
theorem rows_rowsL (n : Nat) (len : Nat → Nat) (ch : Nat → Nat → Rat) : rows n len ch = rowsL n (chL len ch) := by
  unfold rows rowsL chL
  refine List.map_congr_left fun k _ => ?_
  rw [vec_encL]
def updL (g : Nat → List Rat) (k : Nat) (b : List Rat) : Nat → List Rat := fun i => if i = k then b else g i
theorem upd_rowsL (n : Nat) (len : Nat → Nat) (ch : Nat → Nat → Rat) (k : Nat) (b : List Rat) : fl n (updD (fun k => .tup (vec (len k) (ch k))) k (.tup (encL b))) = rowsL n (updL (chL len ch) k b) := by
  unfold rowsL fl
  refine List.map_congr_left fun i _ => ?_
  unfold updD updL chL
  by_cases e : i = k
  · rw [if_pos e, if_pos e]
  · rw [if_neg e, if_neg e]
    show D.tup (vec (len i) (ch i)) = _
    rw [vec_encL]
theorem chL_ok {n : Nat} {par : Nat → Nat} {ch : Nat → Nat → Rat} (W : GoodCh n par ch) : ∀ k, k < n → (chL (klen n par) ch k).length ≤ 10 ∧ ∀ q ∈ chL (klen n par) ch k, Sz 6 q := by
  intro k hk
  unfold chL
  refine ⟨by rw [List.length_map, List.length_range]; have := W.k3 k hk; omega, fun q hq => ?_⟩
  obtain ⟨i, hi, rfl⟩ := List.mem_map.mp hq
  exact W.sz k hk i (List.mem_range.mp hi)
theorem chL_good {n : Nat} {par : Nat → Nat} {ch : Nat → Nat → Rat} (W : GoodCh n par ch) : ∀ k, k < n → goodC n par (chL (klen n par) ch) k := by
  intro k hk
  unfold goodC chL
  refine ⟨by rw [List.length_map, List.length_range], fun q hq => ?_, fun h => ?_⟩
  · obtain ⟨i, hi, rfl⟩ := List.mem_map.mp hq
    exact W.pos k hk i (List.mem_range.mp hi)
  · rw [sumQ_range]; exact W.one k hk h
theorem chs_true {n : Nat} {par : Nat → Nat} {pr : Nat → Rat} {ch : Nat → Nat → Rat} (T : WT n par) (W : GoodCh n par ch) {Q : D → Prop} (h : Q (.bl true)) : fChs [treeD n par pr, .tup (rows n (klen n par) ch)] Q := by
  refine ⟨n, par, pr, _, rfl, T.n9, .inr (.inr ⟨chL (klen n par) ch, by rw [rows_rowsL], chL_ok W, fun r hr => ?_⟩)⟩
  rw [hr.mpr (chL_good W)]; exact h
def badL (n : Nat) (par : Nat → Nat) (k : Nat) (b : List Rat) : Prop := b.length ≤ 10 ∧ (∀ q ∈ b, Sz 6 q) ∧ ¬ (b.length = klen n par k ∧ (∀ q ∈ b, 0 < q) ∧ (kids n par k ≠ [] → sumQ b = 1))
theorem bad_step {rt : D → Prop} {bk : En → Prop} {n : Nat} {par : Nat → Nat} {pr : Nat → Rat} {mo : D} {ch : Nat → Nat → Rat} {row : Nat → Rat} {s : Rat} {k : Nat} {b : List Rat} {e8 e9 e10 e11 e12 e13 e14 e15 e16 e17 e18 e19 e20 e21 e22 : EV} (T : WT n par) (W : GoodCh n par ch) (hk : k < n) (hb : badL n par k b) (K : En → Prop)
    (hK : K [.fz .tok, .fz (.dct (HK n par pr mo)), .fz (treeD n par pr), .fz (.int (n : Int)), .fz (.tup (rows n (klen n par) ch)), .fz (.int ((k : Nat) : Int)), .fz (.tup (vec n row)), .fz (.tupF [.int s.num, .int (s.den : Int)]), e8, e9, e10, e11, e12, e13, e14, e15, e16, e17, e18, e19, e20, e21, e22, .fz (.tup (encL b))]) :
    F4 { nx := K, rt := rt, bk := bk, ct := K } [.fz .tok, .fz (.dct (HK n par pr mo)), .fz (treeD n par pr), .fz (.int (n : Int)), .fz (.tup (rows n (klen n par) ch)), .fz (.int ((k : Nat) : Int)), .fz (.tup (vec n row)), .fz (.tupF [.int s.num, .int (s.den : Int)]), e8, e9, e10, e11, e12, e13, e14, e15, e16, e17, e18, e19, e20, e21, e22, .fz (.tup (encL b))] := by
  have hn9 := T.n9
  unfold F4
  lcg_off
  have l1 : (cutD (rows n (klen n par) ch) none (some ((k : Nat) : Int))).length = k := by
    rw [cut_pre _ (by rw [rows_len]; omega), List.length_take, rows_len]; omega
  have l2 : (cutD (rows n (klen n par) ch) (some (((k : Nat) : Int) + 1)) none).length = n - (k + 1) := by
    rw [show ((k : Nat) : Int) + 1 = ((k + 1 : Nat) : Int) by omega, cut_suf _ (by rw [rows_len]; omega), List.length_drop, rows_len]
  refine ⟨by decide, by rw [l1]; omega, by rw [List.length_append, l1, l2, List.length_singleton]; omega, ?_⟩
  rw [rows_fl, cut_mid _ hk, upd_rowsL]
  refine ⟨n, par, pr, _, rfl, hn9, .inr (.inr ⟨_, rfl, fun j hj => ?_, fun r hr => ?_⟩)⟩
  · unfold updL
    split
    · exact ⟨hb.1, hb.2.1⟩
    · exact chL_ok W j hj
  · have : r = false := by
      cases r with
      | false => rfl
      | true =>
        have g := hr.mp rfl k hk
        unfold goodC updL at g
        rw [if_pos rfl] at g
        exact absurd g hb.2.2
    subst this
    simp only [decide_true, Bool.true_eq_false, if_false]
    exact hK
theorem rep_mem {q : Rat} {m : Nat} {P : Rat → Prop} (h : P q) : ∀ x ∈ List.replicate m q, P x := fun x hx => by
  rw [(List.mem_replicate.mp hx).2]; exact h
theorem bad1 {n : Nat} {par : Nat → Nat} {k : Nat} (h0 : kids n par k ≠ []) (h3 : klen n par k ≤ 3) : badL n par k (List.replicate (klen n par k) 2) := by
  have hp := klen_pos h0
  refine ⟨by rw [List.length_replicate]; omega, rep_mem ⟨by decide +kernel, by decide +kernel⟩, fun z => ?_⟩
  have z := z.2.2 h0
  have hc : klen n par k = 1 ∨ klen n par k = 2 ∨ klen n par k = 3 := by omega
  rcases hc with e | e | e <;> (rw [e] at z; revert z; decide +kernel)
theorem bad2 {n : Nat} {par : Nat → Nat} {k : Nat} (h0 : kids n par k ≠ []) (h3 : klen n par k ≤ 3) : badL n par k (List.replicate (klen n par k) 0) := by
  have hp := klen_pos h0
  refine ⟨by rw [List.length_replicate]; omega, rep_mem ⟨by decide +kernel, by decide +kernel⟩, fun z => ?_⟩
  have z := z.2.1 0 (List.mem_replicate.mpr ⟨by omega, rfl⟩)
  exact absurd z (by decide +kernel)
theorem bad3 {n : Nat} {par : Nat → Nat} {k : Nat} (h0 : kids n par k ≠ []) : badL n par k [] := by
  have hp := klen_pos h0
  refine ⟨by decide, (fun q hq => by cases hq), fun z => ?_⟩
  have := z.1
  simp at this
  omega
theorem bad4 {n : Nat} {par : Nat → Nat} {k : Nat} (h0 : kids n par k ≠ []) (h3 : klen n par k ≤ 3) : badL n par k (List.replicate (klen n par k) (Rat.divInt 1 ((klen n par k : Int) + 1))) := by
  have hp := klen_pos h0
  refine ⟨by rw [List.length_replicate]; omega, rep_mem (divInt_sz (by omega) (by decide) (by have : (2 : Nat) ^ 6 = 64 := rfl; omega)), fun z => ?_⟩
  have z := z.2.2 h0
  have hc : klen n par k = 1 ∨ klen n par k = 2 ∨ klen n par k = 3 := by omega
  rcases hc with e | e | e <;> (rw [e] at z; revert z; decide +kernel)
end DL
set_option Elab.async false
set_option linter.all false
set_option autoImplicit false
set_option maxRecDepth 100000
namespace DL
open PySem PySem.Spec
open PyProof.Rows hiding St
open L2
local macro_rules | `(tactic| lcg_off) => `(tactic| simp only [mVar, mC, mNil, mCons, mTup, mTupF, mLst, mFz, mOp, oI0, oI, oEq, oNe, oIsN, oNotN, oIsB, oIsNotB, oCatT, oCatL, oRepT, mRepL, mIx, mSq, mOwn, mTst, mAnd, mOr, mNot, mAndV, mOrV, mNotV, mIf, mNeg, mCall, mCB, cAbs, cInt, mLen, mTupO, mLstO, mLrg1, mSum, mAny, mAll, mIndex, mNoP, mPart, mSlT, mSlL, mIsi, mDGet, mDisp, mPairs, mWeak, mSeqI, mRange1, mRange2, mYes, gNm, gTupD, gConsD, gNilD, mLc, mNext, mSeq, mBreak, mCont, mAsg, mSet, mSetOw, mPar, mPar3, mParO, mParO1, mParOO, mDrop, mRet, mRetN, mIfS, mGive, mApp, mSetIx, mIns, mRem, isOw, onOw, mEqQ, mNeQ, mNewT, mPutT, onDt, mGetT, mFor, startD, List.map_cons, List.map_nil, List.length_cons, List.length_nil, List.cons_append, List.nil_append, List.getElem?_cons_zero, List.getElem?_cons_succ, List.set_cons_zero, List.set_cons_succ, List.replicate_succ, List.replicate_zero, Nat.reduceAdd, Nat.reduceSub, Nat.zero_add, Nat.sub_self, decide_eq_true_eq, Bool.not_eq_true, Bool.not_eq_eq_eq_not, if_true, if_false, ite_true, ite_false, Bool.false_eq_true, noOw, wipeD, List.all_cons, List.all_nil, Bool.and_true, true_and, and_true, D.isNon, Bool.not_true, Bool.not_false])
theorem compD_any {G : En} {tg : GD} {mt : BD} {me : ED} : ∀ (xs acc : List D) (Q : List D → Prop),
    (∀ x ∈ xs, ∀ (k : D → Prop) (k0 : Prop), k x → k0 → tg x G fun G1 => mt G1 fun c => if c = true then me G1 k else k0) → (∀ ys : List D, (∀ y ∈ ys, y ∈ xs) → ys.length ≤ xs.length → Q (acc ++ ys)) → compD G tg mt me xs acc Q
  | [], acc, Q, _, hq => by
    have := hq [] (fun y h => h) (Nat.le_refl _)
    rw [List.append_nil] at this
    exact this
  | x :: xs, acc, Q, h, hq => by
    refine h x List.mem_cons_self _ _ ?_ ?_
    · refine compD_any xs (acc ++ [x]) Q (fun y hy => h y (List.mem_cons_of_mem _ hy)) fun ys h1 h2 => ?_
      rw [List.append_assoc]
      exact hq (x :: ys) (fun y hy => by
        rcases List.mem_cons.mp hy with rfl | hy
        · exact List.mem_cons_self
        · exact List.mem_cons_of_mem _ (h1 y hy)) (by rw [List.length_cons, List.length_cons]; omega)
    · exact compD_any xs acc Q (fun y hy => h y (List.mem_cons_of_mem _ hy)) fun ys h1 h2 => hq ys (fun y hy => List.mem_cons_of_mem _ (h1 y hy)) (by rw [List.length_cons]; omega)
theorem nats_of {L : List Nat} {ys : List D} (h : ∀ y ∈ ys, y ∈ natsD L) : ∃ M : List Nat, ys = natsD M ∧ ∀ i ∈ M, i ∈ L := by
  refine ⟨ys.map nOf, ?_, fun i hi => ?_⟩
  · unfold natsD
    rw [List.map_map]
    have : ys.map ((fun i : Nat => D.int ((i : Nat) : Int)) ∘ nOf) = ys.map id := List.map_congr_left fun y hy => by
      obtain ⟨i, _, rfl⟩ := List.mem_map.mp (h y hy)
      rfl
    rw [this, List.map_id]
  · obtain ⟨y, hy, rfl⟩ := List.mem_map.mp hi
    obtain ⟨j, hj, rfl⟩ := List.mem_map.mp (h y hy)
    rw [nOf_int]; exact hj
theorem dict3 {a b c : List Key} {va vb vc : D} (hab : a = b → va = vb) (hac : a ≠ c) (hbc : b ≠ c) : lookT (putT (putT (putT [] a va) b vb) c vc) a = some va ∧ lookT (putT (putT (putT [] a va) b vb) c vc) b = some vb ∧ lookT (putT (putT (putT [] a va) b vb) c vc) c = some vc := by
  have hca : ¬ c = a := fun z => hac z.symm
  have hcb : ¬ c = b := fun z => hbc z.symm
  by_cases e : a = b
  · subst e
    have := hab rfl
    subst this
    have e1 : putT [] a va = [(a, va)] := by simp [putT]
    have e2 : putT [(a, va)] a va = [(a, va)] := by simp [putT]
    have e3 : putT [(a, va)] c vc = [(a, va), (c, vc)] := by simp [putT, hac]
    rw [e1, e2, e3]
    simp [lookT, List.find?, hac]
  · have hba : ¬ b = a := fun z => e z.symm
    have e1 : putT [] a va = [(a, va)] := by simp [putT]
    have e2 : putT [(a, va)] b vb = [(a, va), (b, vb)] := by simp [putT, e]
    have e3 : putT [(a, va), (b, vb)] c vc = [(a, va), (b, vb), (c, vc)] := by simp [putT, hac, hbc]
    rw [e1, e2, e3]
    simp [lookT, List.find?, hac, hbc, e]
theorem putT_len (kvs : List (List Key × D)) (k : List Key) (v : D) : (putT kvs k v).length ≤ kvs.length + 1 := by
  unfold putT
  split
  · rw [List.length_map]; omega
  · rw [List.length_append]; exact Nat.le_refl _
def flatF (n : Nat) (par : Nat → Nat) : Nat → Nat → Rat := fun k _ => Rat.divInt 1 (klen n par k : Int)
theorem flat_row (n : Nat) (par : Nat → Nat) (k : Nat) : List.replicate (klen n par k) (D.tup [.int 1, .int (klen n par k : Int)]) = vec (klen n par k) (flatF n par k) := by
  by_cases h : klen n par k = 0
  · rw [h]; rfl
  · rw [enc_divInt1 (by omega), vec_const]; rfl
def flatMap : D → D
  | .lst xs => .tup (List.replicate xs.length (.tup [.int 1, .int (xs.length : Int)]))
  | _ => .non
theorem pl_rows (n : Nat) (len : Nat → Nat) (ch : Nat → Nat → Rat) : D.pl 60 (.tup (rows n len ch)) = true := by
  show (rows n len ch).all (D.pl 59) = true
  rw [List.all_eq_true]
  intro x hx
  obtain ⟨k, _, rfl⟩ := List.mem_map.mp hx
  show (vec (len k) (ch k)).all (D.pl 58) = true
  rw [List.all_eq_true]
  intro x hx
  obtain ⟨i, _, rfl⟩ := List.mem_map.mp hx
  rfl
theorem eqv_rows (n : Nat) (len : Nat → Nat) (ch : Nat → Nat → Rat) : D.eqv (.tup (rows n len ch)) (.tup (rows n len ch)) = true := eqv_tup_refl _ fun x hx => by
  obtain ⟨k, _, rfl⟩ := List.mem_map.mp hx
  exact eqv_vec _ _
theorem evenE (n : Nat) (par : Nat → Nat) : ((List.range n).map fun k => D.tup (List.replicate (kids n par k).length (.tup [.int 1, .int ((kids n par k).length : Int)]))) = rows n (klen n par) (flatF n par) := by
  unfold rows
  refine List.map_congr_left fun k _ => ?_
  rw [← flat_row]; rfl
theorem flatF_sz {n : Nat} {par : Nat → Nat} {k i : Nat} (h : i < klen n par k) (h3 : klen n par k ≤ 3) : Sz 6 (flatF n par k i) := by
  have h64 : (2 : Nat) ^ 6 = 64 := rfl
  exact divInt_sz (by omega) (by decide) (by omega)
theorem p__law_trees : ∀ ds Q, (fun ds Q => ds = [.tok] ∧ Q (.bl true)) ds Q → b__law_trees fLH fTreeOf fParts2 fFr fTake fShare (fBinL (· * ·)) fChs fChance fMean fDotL fShareOf fTotalL (fBinL (· - ·)) fThr fWC fWC0 fAddG fMost (fGF 9) fGC fLess fOverL fEven fTilt { nx := fun _ => Q .non, rt := Q } (startD N__law_trees ds) := by
  rintro ds Q ⟨rfl, hQ⟩
  unfold b__law_trees
  lcg_off
  refine ⟨rfl, fun n par pr mo T h2 hk3 => ?_⟩
  have hn9 := T.n9
  refine ⟨n, par, pr, mo, rfl, ?_⟩
  rw [HK_eq]
  dsimp only
  rw [HK_nodes]
  dsimp only
  rw [nodesD_len, Int.toNat_natCast]
  refine ⟨by decide, by omega, by omega, by rw [List.length_map, List.length_range]; omega, ?_⟩
  refine compD_rel (fun x y => ∃ c, y = D.tup (vec (klen n par (nOf x)) c) ∧ (∀ i, i < klen n par (nOf x) → Sz 6 (c i) ∧ 0 < c i ∧ 1 / 1000 < c i) ∧ (kids n par (nOf x) ≠ [] → sm (klen n par (nOf x)) c = 1)) (ixs n) [] _ (fun x hx K hK => ?_) ?_
  · obtain ⟨k, hk, rfl⟩ := mem_ixs hx
    rw [nOf_int] at hK
    lcg_off
    rw [HK_ahead]
    dsimp only
    rw [atD_ah hk]
    (try dsimp only)
    rw [eqv_nil, natsD_nil]
    refine ⟨by decide, pl_nats _, rfl, ?_⟩
    by_cases h0 : kids n par k = []
    · rw [decide_eq_true h0]
      simp only [Bool.true_eq_false, if_false]
      refine ⟨by decide, hK _ ⟨fun _ => 0, ?_, fun i hi => ?_, fun z => absurd h0 z⟩⟩
      · unfold klen; rw [h0]; rfl
      · unfold klen at hi; rw [h0] at hi; simp at hi
    · rw [decide_eq_false h0]
      simp only [if_true]
      rw [HK_ahead]
      dsimp only
      rw [atD_ah hk]
      dsimp only
      rw [natsD_len]
      have h3 := hk3 k
      refine ⟨klen n par k, rfl, klen_pos h0, by omega, fun c hc h1 hb => ?_⟩
      exact hK _ ⟨c, rfl, fun i hi => ⟨(hc i hi).1, (hc i hi).2, hb i hi⟩, fun _ => h1⟩
  intro ys hys
  obtain ⟨ch, rfl, hch⟩ := rows_of_rel (P := fun k c => (∀ i, i < klen n par k → Sz 6 (c i) ∧ 0 < c i ∧ 1 / 1000 < c i) ∧ (kids n par k ≠ [] → sm (klen n par k) c = 1)) hys
  rw [List.nil_append]
  clear hys
  refine ⟨by omega, by omega, by rw [List.length_map, List.length_range]; omega, ?_⟩
  refine compD_rel (fun _ y => ∃ q : Rat, y = encQ q ∧ Sz 2 q) (ixs n) [] _ (fun x hx k hk => ?_) ?_
  · lcg_off
    refine ⟨7, rfl, by decide, fun r _ hr => ?_⟩
    refine ⟨2, rfl, by decide, fun r2 _ hr2 => ?_⟩
    have h1 := hr (by decide)
    have h2 := hr2 (by decide)
    have h3 : (2 : Nat) ^ 2 ≤ 2 ^ 2990 := pow_lt_pow2 (by decide)
    exact ⟨r - 3, 1 + r2, rfl, by omega, by omega, hk _ ⟨_, rfl, divInt_sz (by omega) (by omega) (by omega)⟩⟩
  intro ys hys
  obtain ⟨row, rfl, hrow⟩ := vec_of_rel (fun _ _ h => h) (ixs_length n) hys
  rw [List.nil_append]
  clear hys
  refine ⟨rfl, fun s hs hs0 hs1 => ?_⟩
  have W : GoodCh n par ch := ⟨fun k hk i hi => ((hch k hk).1 i hi).1, fun k hk i hi => ((hch k hk).1 i hi).2.1, fun k hk h => (hch k hk).2 h, fun k _ => hk3 k⟩
  have hth : ∀ k, k < n → ∀ i, i < klen n par k → 1 / 1000 < ch k i := fun k hk i hi => ((hch k hk).1 i hi).2.2
  obtain ⟨on, O⟩ := on_ex T ch
  obtain ⟨G, EG⟩ := G_ex T row
  obtain ⟨Cs, ECs⟩ := C_ex T ch row s
  obtain ⟨C1, EC1⟩ := C_ex T ch row 1
  obtain ⟨Ct, ECt⟩ := C_ex T ch row (1 / 1000)
  have hnul : ∀ p c, EV.un ≠ .ow p c := fun p c z => by cases z
  refine ⟨by decide, by decide, fun p => ⟨by omega, by omega, ?_⟩⟩
  rw [List.range_eq_range']
  refine on_loop (p := p) T W O n 0 .un .un (by omega) hnul fun e5 e9 h5 => ?_
  lcg_off
  refine chs_true T W ?_
  simp only [decide_true, Bool.true_eq_false, if_false]
  have n5 : (match some e5 with | some (EV.ow p c) => false | x => true) = true := by cases e5 <;> first | rfl | exact absurd rfl (h5 _ _)
  have onz := on_sz T O W.sz
  rw [Int.toNat_natCast]
  refine ⟨by omega, by omega, n5, by rw [List.length_map, List.length_range]; omega, ?_⟩
  refine compD_map (fun x => encQ (on (nOf x))) (ixs n) _ _ (fun x hx K hK => ?_) ?_
  · obtain ⟨k, hk, rfl⟩ := mem_ixs hx
    rw [nOf_int] at hK
    lcg_off
    exact ⟨n, par, pr, ch, on, k, rfl, T, O, W.sz, hk, hK⟩
  rw [List.nil_append, ixs_map n fun k => encQ (on k)]
  have ev : (List.range n).map (fun k => encQ (on k)) = vec n on := rfl
  rw [ev, eqv_vecl]
  refine ⟨pl_vecl _ _, pl_vecl _ _, ?_⟩
  simp only [Bool.true_eq_false, if_false]
  refine ⟨n, par, pr, ch, on, _, row, rfl, .inr rfl, T, O, W.sz, hrow, ?_⟩
  have hz : n * (2 + 19 + 1) ≤ 9 * 22 := Nat.mul_le_mul_right _ hn9
  refine ⟨.tup (vec n row), .lst (vec n on), n, row, on, 2, 19, rfl, .inr rfl, .inl rfl, (fun i hi => ⟨hrow i hi, onz i hi⟩), by omega, ?_⟩
  (try dsimp only)
  rw [eqv_encr]
  refine ⟨rfl, rfl, ?_⟩
  simp only [Bool.true_eq_false, if_false]
  refine ⟨by omega, by omega, n5, by rw [List.length_map, List.length_range]; omega, ?_⟩
  refine compD_fm (fun x => (fun k => decide (kids n par k = [])) (nOf x)) id (ixs n) _ _ (fun x hx q q0 k1 k2 => ?_) ?_
  · obtain ⟨k, hk, rfl⟩ := mem_ixs hx
    dsimp only at k1 k2
    rw [nOf_int] at k1 k2
    lcg_off
    rw [HK_ahead]
    dsimp only
    rw [atD_ah hk]
    (try dsimp only)
    rw [eqv_nil, natsD_nil]
    refine ⟨by decide, pl_nats _, rfl, ?_⟩
    by_cases h0 : kids n par k = []
    · rw [decide_eq_true h0] at k1 ⊢
      simp only [if_true]
      exact k1 rfl
    · rw [decide_eq_false h0] at k2 ⊢
      simp only [Bool.false_eq_true, if_false]
      exact k2 rfl
  rw [List.nil_append, List.map_id, filt_ixs n fun k => decide (kids n par k = [])]
  have hlm : ∀ i ∈ (List.range n).filter (fun k => decide (kids n par k = [])), i < n := fun i hi => List.mem_range.mp (List.mem_filter.mp hi).1
  have hll : ((List.range n).filter (fun k => decide (kids n par k = []))).length ≤ n := by
    have := List.length_filter_le (fun k => decide (kids n par k = [])) (List.range n)
    rwa [List.length_range] at this
  have hl1 := leaves_one T W O
  generalize (List.range n).filter (fun k => decide (kids n par k = [])) = L at hlm hll hl1
  refine ⟨n5, by rw [natsD_len]; omega, ?_⟩
  refine compD_any _ _ _ (fun x hx q q0 k1 k2 => ?_) fun ys h1 h2 => ?_
  · lcg_off
    refine ⟨2, rfl, by decide, fun r _ hr => ?_⟩
    (try dsimp only)
    obtain ⟨i, hi, rfl⟩ := List.mem_map.mp hx
    rw [eqv_int]
    refine ⟨rfl, rfl, ?_⟩
    by_cases hr0 : r = 0
    · rw [decide_eq_true hr0]
      simp only [if_true]
      exact k1
    · rw [decide_eq_false hr0]
      simp only [Bool.false_eq_true, if_false]
      exact k2
  rw [natsD_len] at h2
  obtain ⟨M, rfl, hM⟩ := nats_of h1
  rw [natsD_len] at h2
  rw [List.nil_append]
  refine ⟨n, par, pr, ch, on, M, rfl, (fun i hi => hlm i (hM i hi)), by omega, T, O, W.sz, ?_⟩
  (try dsimp only)
  refine ⟨n5, by rw [natsD_len]; omega, ?_⟩
  refine compD_map (fun x => encQ (on (nOf x))) _ _ _ (fun x hx K hK => ?_) ?_
  · obtain ⟨i, hi, rfl⟩ := List.mem_map.mp hx
    rw [nOf_int] at hK
    lcg_off
    rw [atD_vec (hlm i (hM i hi))]
    exact hK
  rw [List.nil_append, nats_map]
  refine ⟨_, M.map on, 19, rfl, .inl rfl, (fun q hq => ?_), by rw [List.length_map]; omega, ?_⟩
  · obtain ⟨i, hi, rfl⟩ := List.mem_map.mp hq
    exact onz i (hlm i (hM i hi))
  (try dsimp only)
  rw [sumQ_lsm, eqv_encr]
  refine ⟨rfl, rfl, ?_⟩
  simp only [Bool.true_eq_false, if_false]
  refine ⟨n, par, pr, ch, on, L, rfl, hlm, by omega, T, O, W.sz, ?_⟩
  (try dsimp only)
  rw [hl1, enc11, eqv_encr]
  refine ⟨by decide, rfl, rfl, ?_⟩
  simp only [Bool.true_eq_false, if_false]
  refine fun p2 => ⟨by decide, by decide, by decide, ?_⟩
  have q1 : D.tupF [D.int 1, D.int 1000] = .tupF [.int (1/1000 : Rat).num, .int (((1/1000 : Rat).den : Nat) : Int)] := by
    rw [show (1/1000 : Rat).num = 1 by decide +kernel, show (1/1000 : Rat).den = 1000 by decide +kernel]; rfl
  have q2 : D.tupF [D.int 1, D.int 1] = .tupF [.int (1 : Rat).num, .int (((1 : Rat).den : Nat) : Int)] := rfl
  rw [q1, q2]
  refine ⟨trivial, ?_⟩
  refine told_step (t := s) (p := p2) (kvs := []) T W ECs hrow (hs.mono (by decide)) hs0 hs1 hnul h5 (by decide) _ fun e5 e14 e15 h5 => ?_
  refine ⟨trivial, ?_⟩
  have pl1 := putT_len [] [.inl s.num, .inl (s.den : Int)] (encQ (Cs 0))
  have pl2 := putT_len (putT [] [.inl s.num, .inl (s.den : Int)] (encQ (Cs 0))) [.inl (1 : Rat).num, .inl (((1 : Rat).den : Nat) : Int)] (encQ (C1 0))
  have z1 : Sz 10 (1 : Rat) := sz11.mono (by decide)
  have zt : Sz 10 (1/1000 : Rat) := ⟨by decide +kernel, by decide +kernel⟩
  refine told_step (t := 1) (p := p2) T W EC1 hrow z1 (by decide +kernel) (by decide +kernel) hnul h5 (by rw [List.length_nil] at pl1; omega) _ fun e5 e14 e15 h5 => ?_
  refine ⟨trivial, ?_⟩
  refine told_step (t := 1/1000) (p := p2) T W ECt hrow zt (by decide +kernel) (by decide +kernel) hnul h5 (by rw [List.length_nil] at pl1; omega) _ fun e5 e14 e15 h5 => ?_
  refine ⟨trivial, ?_⟩
  have r1 : (1 / 1000 : Rat).num = 1 := by decide +kernel
  have r2 : (1 / 1000 : Rat).den = 1000 := by decide +kernel
  have hsb := share_big hs hs0
  have d3 := dict3 (a := [Sum.inl s.num, Sum.inl (s.den : Int)]) (b := [Sum.inl (1 : Rat).num, Sum.inl (((1 : Rat).den : Nat) : Int)]) (c := [Sum.inl (1 / 1000 : Rat).num, Sum.inl (((1 / 1000 : Rat).den : Nat) : Int)]) (va := encQ (Cs 0)) (vb := encQ (C1 0)) (vc := encQ (Ct 0))
    (fun z => by
      injection z with z1 z2
      injection z1 with z1
      injection z2 with z2 _
      injection z2 with z2
      have es : s = 1 := Rat.ext z1 (by omega)
      subst es
      have a := C_mono T W ECs EC1 hs0 Rat.le_refl hs1 0 T.n0
      have b := C_mono T W EC1 ECs hs0 Rat.le_refl hs1 0 T.n0
      rw [Rat.le_antisymm b a])
    (fun z => by
      injection z with z1 z2
      injection z2 with z2 _
      injection z2 with z2
      have := hs.2
      have h64 : (2 : Nat) ^ 6 = 64 := rfl
      rw [r2] at z2
      omega)
    (fun z => by
      injection z with z1 z2
      injection z2 with z2 _
      injection z2 with z2
      rw [r2] at z2
      exact absurd z2 (by decide))
  generalize putT (putT (putT [] [Sum.inl s.num, Sum.inl (s.den : Int)] (encQ (Cs 0))) [Sum.inl (1 : Rat).num, Sum.inl (((1 : Rat).den : Nat) : Int)] (encQ (C1 0))) [Sum.inl (1 / 1000 : Rat).num, Sum.inl (((1 / 1000 : Rat).den : Nat) : Int)] (encQ (Ct 0)) = KD at d3
  rw [r1, r2] at d3
  obtain ⟨dk1, dk2, dk3⟩ := d3
  lcg_off
  refine ⟨by decide, by omega, by omega, by omega, fun q => ?_⟩
  simp only [mRange3]
  lcg_off
  refine ⟨n, rgc_dwn (by omega), ?_⟩
  rw [flat_rep, Int.toNat_natCast, ← hlf_n n G, rng3_dwn]
  refine sums_in T EG hrow hnul n _ (Nat.le_refl _) h5 fun e5 h5 => ?_
  have n5 : (match some e5 with | some (EV.ow p c) => false | x => true) = true := by cases e5 <;> first | rfl | exact absurd rfl (h5 _ _)
  lcg_off
  rw [Int.toNat_natCast]
  refine ⟨by omega, by omega, n5, by rw [List.length_map, List.length_range]; omega, ?_⟩
  refine compD_map (fun x => encQ (G (nOf x))) (ixs n) _ _ (fun x hx K hK => ?_) ?_
  · obtain ⟨k, hk, rfl⟩ := mem_ixs hx
    rw [nOf_int] at hK
    lcg_off
    exact ⟨n, par, pr, row, G, k, rfl, T, EG, hrow, hk, by omega, hK⟩
  rw [List.nil_append, ixs_map n fun k => encQ (G k)]
  have ev : (List.range n).map (fun k => encQ (G k)) = vec n G := rfl
  rw [ev, eqv_vecl]
  refine ⟨pl_vecl _ _, pl_vecl _ _, ?_⟩
  simp only [Bool.true_eq_false, if_false]
  refine ⟨n, par, pr, row, G, rfl, T, EG, hrow, ?_⟩
  (try dsimp only)
  have g0 : ∀ Q : D → Prop, atD (vec n G) 0 Q = Q (encQ (G 0)) := fun Q => atD_vec (i := 0) T.n0 Q
  rw [g0, eqv_encr]
  refine ⟨rfl, rfl, ?_⟩
  simp only [Bool.true_eq_false, if_false]
  have k1 : keysOf [D.int 1, D.int 1] = some [Sum.inl 1, Sum.inl 1] := rfl
  have kt : keysOf [D.int 1, D.int 1000] = some [Sum.inl 1, Sum.inl 1000] := rfl
  have ks : keysOf [D.int s.num, D.int (s.den : Int)] = some [Sum.inl s.num, Sum.inl (s.den : Int)] := rfl
  have dk2' : lookT KD [Sum.inl 1, Sum.inl 1] = some (encQ (C1 0)) := dk2
  have dk3' : lookT KD [Sum.inl 1, Sum.inl 1000] = some (encQ (Ct 0)) := dk3
  simp only [k1, kt, ks, dk1, dk2', dk3']
  refine ⟨by decide, .tup (vec n row), .lst (vec n on), n, row, on, 2, 19, rfl, .inr rfl, .inl rfl, (fun i hi => ⟨hrow i hi, onz i hi⟩), by omega, ?_⟩
  have ec1 := C_one T W O EC1
  have ect := C_tiny T W ECt EG (by decide +kernel) hth 0 T.n0
  have m1 := C_mono T W ECs EC1 hs0 hs1 Rat.le_refl 0 T.n0
  have m2 := C_mono T W ECt ECs (by decide +kernel) hsb hs1 0 T.n0
  rw [ect] at m2
  have zs := C_sz3 T W ECs hrow (hs.mono (by decide)) hs0 hs1 0 T.n0
  have zc1 := C_sz3 T W EC1 hrow z1 (by decide +kernel) (by decide +kernel) 0 T.n0
  have zg := G_sz T EG hrow 0 T.n0
  (try dsimp only)
  rw [← ec1, eqv_encr]
  refine ⟨rfl, rfl, ?_⟩
  simp only [Bool.true_eq_false, if_false]
  refine ⟨by decide, ?_⟩
  rw [g0, ect, eqv_encr]
  refine ⟨rfl, rfl, ?_⟩
  simp only [Bool.true_eq_false, if_false]
  refine ⟨by decide, _, _, 2909, 2909, rfl, zs, zc1, by decide, ?_⟩
  (try dsimp only)
  rw [decide_eq_false (Rat.not_lt.mpr m1)]
  simp only [Bool.false_eq_true, if_false]
  rw [g0]
  refine ⟨_, _, 13, 2909, rfl, zg, zs, by decide, ?_⟩
  (try dsimp only)
  rw [decide_eq_false (Rat.not_lt.mpr m2)]
  simp only [Bool.false_eq_true, if_false]
  rw [HK_ahead]
  (try dsimp only)
  refine ⟨by rw [fl_len]; omega, ?_⟩
  refine compD_map flatMap _ _ _ (fun x hx K hK => ?_) ?_
  · obtain ⟨k, hk, rfl⟩ := List.mem_map.mp hx
    have h3 := hk3 k
    lcg_off
    refine ⟨by decide, by decide, ?_⟩
    rw [natsD_len]
    unfold klen at h3
    refine ⟨by omega, by omega, by omega, ?_⟩
    rw [flat_rep, Int.toNat_natCast]
    have : flatMap (.lst (natsD (kids n par (nOf (.int ((k : Nat) : Int)))))) = .tup (List.replicate (kids n par k).length (.tup [.int 1, .int ((kids n par k).length : Int)])) := by
      show D.tup _ = _
      rw [natsD_len]; rfl
    rw [nOf_int] at this
    rw [this] at hK
    exact hK
  have ef : (fl n fun k => D.lst (natsD (kids n par k))).map flatMap = rows n (klen n par) (flatF n par) := by
    unfold fl rows
    rw [List.map_map]
    refine List.map_congr_left fun k _ => ?_
    show D.tup (List.replicate (natsD (kids n par k)).length (.tup [.int 1, .int ((natsD (kids n par k)).length : Int)])) = _
    rw [natsD_len, ← flat_row]; rfl
  rw [List.nil_append, ef]
  have hpos := W.pos
  refine ⟨by omega, by omega, n5, by rw [List.length_map, List.length_range]; omega, ?_⟩
  refine compD_map (fun x => .tup (vec (klen n par (nOf x)) fun i => flatF n par (nOf x) i / ch (nOf x) i)) (ixs n) _ _ (fun x hx K hK => ?_) ?_
  · obtain ⟨k, hk, rfl⟩ := mem_ixs hx
    rw [nOf_int] at hK
    have h3 := hk3 k
    lcg_off
    rw [atD_rows hk]
    (try dsimp only)
    rw [vec_length, Int.toNat_natCast]
    refine ⟨by omega, by omega, by rw [List.length_map, List.length_range]; omega, ?_⟩
    refine compD_map (fun x => encQ (flatF n par k (nOf x) / ch k (nOf x))) (ixs (klen n par k)) _ _ (fun x hx K hK => ?_) ?_
    · obtain ⟨i, hi, rfl⟩ := mem_ixs hx
      rw [nOf_int] at hK
      lcg_off
      rw [atD_rows hk]
      (try dsimp only)
      rw [atD_vec hi, atD_rows hk]
      (try dsimp only)
      rw [atD_vec hi]
      exact ⟨_, _, 6, 6, rfl, (by have := hpos k hk i hi; grind), flatF_sz hi h3, W.sz k hk i hi, by decide, hK⟩
    · rw [List.nil_append, ixs_map (klen n par k) fun i => encQ (flatF n par k i / ch k i)]
      exact hK
  rw [List.nil_append, ixs_map n fun k => .tup (vec (klen n par k) fun i => flatF n par k i / ch k i)]
  have eq : ((List.range n).map fun k => D.tup (vec (klen n par k) fun i => flatF n par k i / ch k i)) = rows n (klen n par) fun k i => flatF n par k i / ch k i := rfl
  rw [eq]
  refine ⟨n, par, pr, rfl, by omega, ?_⟩
  (try dsimp only)
  rw [evenE, eqv_rows]
  refine ⟨pl_rows _ _ _, pl_rows _ _ _, ?_⟩
  simp only [Bool.true_eq_false, if_false]
  refine ⟨_, n, klen n par, ch, flatF n par, rfl, by omega, (fun k _ => by have := hk3 k; omega), (fun k hk i hi => ⟨W.sz k hk i hi, (by have := hpos k hk i hi; grind), flatF_sz hi (hk3 k)⟩), ?_⟩
  (try dsimp only)
  rw [eqv_rows]
  refine ⟨pl_rows _ _ _, pl_rows _ _ _, ?_⟩
  simp only [Bool.true_eq_false, if_false]
  refine ⟨by omega, by omega, n5, by rw [List.length_map, List.length_range]; omega, ?_⟩
  refine compD_fm (fun x => (fun k => decide (kids n par k ≠ [])) (nOf x)) id (ixs n) _ _ (fun x hx q q0 k1 k2 => ?_) ?_
  · obtain ⟨k, hk, rfl⟩ := mem_ixs hx
    dsimp only at k1 k2
    rw [nOf_int] at k1 k2
    lcg_off
    rw [HK_ahead]
    dsimp only
    rw [atD_ah hk]
    (try dsimp only)
    rw [eqv_nil, natsD_nil]
    refine ⟨by decide, pl_nats _, rfl, ?_⟩
    by_cases h0 : kids n par k = []
    · rw [decide_eq_true h0]
      rw [decide_eq_false (fun z => z h0)] at k2
      simp only [Bool.true_eq_false, if_false]
      exact k2 rfl
    · rw [decide_eq_false h0]
      rw [decide_eq_true h0] at k1
      simp only [if_true]
      exact k1 rfl
  rw [List.nil_append, List.map_id, filt_ixs n fun k => decide (kids n par k ≠ [])]
  have hI : ∀ i, i ∈ (List.range n).filter (fun k => decide (kids n par k ≠ [])) ↔ i < n ∧ kids n par i ≠ [] := fun i => by
    rw [List.mem_filter, List.mem_range, decide_eq_true_eq]
  have hIl : ((List.range n).filter (fun k => decide (kids n par k ≠ []))).length ≤ n := by
    have := List.length_filter_le (fun k => decide (kids n par k ≠ [])) (List.range n)
    rwa [List.length_range] at this
  generalize (List.range n).filter (fun k => decide (kids n par k ≠ [])) = I at hI hIl
  have hI0 : 0 < I.length := by
    have p0 : par 1 = 0 := by have := T.up 1 (by decide) (by omega); omega
    refine List.length_pos_of_mem ((hI 0).mpr ⟨by omega, fun z => ?_⟩)
    have : 1 ∈ kids n par 0 := mem_kids.mpr ⟨by omega, by decide, p0⟩
    rw [z] at this
    cases this
  rw [natsD_len]
  refine ⟨(I.length : Int), rfl, by omega, fun r ga gb => ?_⟩
  obtain ⟨x, hx, rfl⟩ := take_ix hI0 ga gb
  (try dsimp only)
  rw [atD_nats hx]
  obtain ⟨hk, h0⟩ := (hI _).mp (List.getElem_mem hx)
  generalize I[x] = k at hk h0
  rw [HK_ahead]
  (try dsimp only)
  rw [atD_ah hk]
  (try dsimp only)
  rw [natsD_len]
  have h3 := hk3 k
  have el : (kids n par k).length = klen n par k := rfl
  rw [el, flat_rep, flat_rep, flat_rep, Int.toNat_natCast]
  have er : ∀ q : Rat, List.replicate (klen n par k) (encQ q) = encL (List.replicate (klen n par k) q) := fun q => by unfold encL; rw [List.map_replicate]
  rw [show D.tup [D.int 2, D.int 1] = encQ 2 from enc_of (by decide +kernel) (by decide +kernel), enc01, enc_divInt1 (x := (klen n par k : Int) + 1) (by omega), er, er, er, show D.tup [] = D.tup (encL []) from rfl]
  refine ⟨by decide, by decide, by omega, by omega, by omega, by decide, by decide, by simp, by omega, by omega, by decide, by decide, by decide, by decide, by omega, by omega, by omega, by decide, ?_⟩
  refine ⟨trivial, bad_step (b := List.replicate (klen n par k) 2) T W hk (bad1 h0 h3) _ ?_⟩
  refine ⟨trivial, bad_step (b := List.replicate (klen n par k) 0) T W hk (bad2 h0 h3) _ ?_⟩
  refine ⟨trivial, bad_step (b := []) T W hk (bad3 h0) _ ?_⟩
  refine ⟨trivial, bad_step T W hk (bad4 h0 h3) _ ?_⟩
  refine ⟨trivial, ?_⟩
  lcg_off
  have l1 : (cutD (rows n (klen n par) ch) none (some (-1))).length = n - 1 := by
    unfold cutD
    rw [HT.sIx_none, List.drop_zero, List.length_take, rows_len]
    show min (((-1 : Int) + (n : Int)).toNat - 0) n = n - 1
    omega
  refine ⟨n, par, pr, _, rfl, hn9, .inr (.inl ⟨_, rfl, by rw [l1]; omega, ?_⟩)⟩
  simp only [decide_true, if_true]
  refine ⟨n, par, pr, _, rfl, hn9, .inl ⟨rfl, ?_⟩⟩
  exact hQ
end DL
set_option Elab.async false
set_option linter.all false
set_option autoImplicit false
set_option maxRecDepth 100000
namespace DL
open PySem PySem.Spec
open PyProof.Rows hiding St
open L2
set_option maxHeartbeats 2000000
section
variable {P : Program} {w : World} {K : PySem.W.Frag} {mg : Str → Option Value} {base : Heap}
def spState (K : PySem.W.Frag) : Sp := fun vs H Q _ => ∃ (a : Addr) (ns : List Int), vs = [.ref a] ∧ SqL K H a (ns.map V.int) ∧ ∀ s c H', TkOk s c H' → Q (.ref s) H'
abbrev N__law_state : List Str := ["script", "cells", "cell"]
theorem S__law_state : FnScope N__law_state ["script"] (defScope (top 34)) := ⟨rfl, rfl, rfl, by decide +kernel, rfl, by decide +kernel, by decide +kernel⟩
theorem k__law_state {k : Nat} (h : Has K mg "_law_state" 34) (Z : Bi mg) : ∃ (f : Addr) (fd : FuncData), FnOk P w K mg base CX0 (k + 1) f fd ["script"] (spState K) ∧ mg "_law_state" = some (.ref f) ∧ PySem.W.keepIn K (.ref f) = true ∧ Binds K fd ["script"] [] := by
  obtain ⟨f, fd, F, hm⟩ := h
  refine ⟨f, fd, F.ok S__law_state (fun vs H Q E h => ?_) (fun cdv A outer s H vs Q E hr h => ?_), hm, F.kp, F.bindsN fun _ _ _ _ _ _ us hl => match us, hl with | [_], _ => rfl⟩
  · obtain ⟨a, ns, rfl, _⟩ := h
    rfl
  obtain ⟨a, ns, rfl, hS, hQ⟩ := h
  refine ⟨_, pss_cons (ps_setLc (i := 1) (own := [("cell", 2)]) rfl S__law_state.nd rfl rfl (sw_true rfl rfl rfl (by decide +kernel)) (pi_seq (pe_slice sl_list (pv 0) po_none (po_some pe_int))) (blkOk_by (by kernel_rfl)) (fun _ _ _ _ _ => pg_name (i := 2) S__law_state.nd rfl (by first | exact Or.inl rfl | exact Or.inr rfl)) (fun _ _ _ _ _ => pts_nil) (fun _ _ _ _ _ => pe_callB call_abs rfl Z.abs (by decide +kernel) (pa_cons (pv 2) pa_nil)))
    (pss_one (ps_ret (pe_lst (pa_cons pe_int (pa_cons (pe_ifExp (pt_cmpR op_gt (pe_callB call_len_seq rfl Z.len PySem.boot_len (pa_cons (pv 1) pa_nil)) pe_int (nomark _)) (pv 1) (pe_lst (pa_cons pe_int pa_nil))) pa_nil)))))
    |> PSs.nox, ?_⟩
  obtain ⟨cs, hcs, hl⟩ : ∃ cs : List Int, cutV (ns.map V.int) none (some 63) = cs.map V.int ∧ cs.length ≤ 63 := by
    refine ⟨ns.take (min 63 (ns.map V.int).length), ?_, by rw [List.length_take]; omega⟩
    have e : HT.sIx (ns.map V.int).length (ns.map V.int).length (some 63) = min 63 (ns.map V.int).length := HT.sIx_nat _ _ 63
    unfold cutV
    rw [HT.sIx_none, e, List.drop_zero, Nat.sub_zero, List.map_take]
  refine ⟨_, rfl, 63, rfl, a, _, rfl, hS, fun p hp => ?_⟩
  rw [hcs]
  refine .inl ⟨p, rfl, ⟨_, SqL.of upd_same⟩, fun D hD => ?_⟩
  have hDp : D ≠ p := fun e => by rw [e, upd_same] at hD; cases hD
  refine ⟨fun i m H2 => i ≤ cs.length ∧ m = cs.length - i ∧ H2 p = some (.lst (cs.map V.int)) ∧ ∃ acc : List Int, H2 D = some (.lst (acc.map V.int)) ∧ acc.length = i ∧ ∀ z ∈ acc, 0 ≤ z,
    ⟨cs.length, Nat.zero_le _, by simp, by rw [upd_ne (Ne.symm hDp), upd_same], [], upd_same, rfl, fun z hz => by cases hz⟩, ?_⟩
  rintro i m H2 ⟨hi, rfl, hp2, acc, hac, hlen, hnn⟩
  by_cases hlt : i < cs.length
  · right
    have ex : (cs.map V.int)[i]? = some (.int cs[i]) := by rw [List.getElem?_map, List.getElem?_eq_getElem hlt]; rfl
    refine ⟨⟨_, _, SqL.of hp2, ex⟩, fun H' => H' p = some (.lst (cs.map V.int)) ∧ ∃ acc : List Int, H' D = some (.lst (acc.map V.int)) ∧ acc.length = i + 1 ∧ ∀ z ∈ acc, 0 ≤ z, fun H' ⟨z1, z2⟩ => ⟨cs.length - (i + 1), by omega, hlt, rfl, z1, z2⟩, fun x H3 y => ?_⟩
    obtain ⟨rfl, hx⟩ := y
    have hx := hx _ (SqL.of hp2)
    rw [ex] at hx
    cases hx
    refine ⟨rfl, ?_⟩
    refine ⟨_, rfl, _, rfl, ?_⟩
    refine ⟨_, hac, ?_, ?_, acc ++ [if cs[i] < 0 then -cs[i] else cs[i]], ?_, by rw [List.length_append, hlen]; rfl, ?_⟩
    · rw [List.length_map, hlen]
      have : (63 : Nat) < sizeLine := by decide
      omega
    · rw [upd_ne (Ne.symm hDp)]; exact hp2
    · rw [upd_same, List.map_append]; rfl
    · intro z hz
      rcases List.mem_append.mp hz with h | h
      · exact hnn z h
      · rw [List.mem_singleton.mp h]; omega
  · left
    refine ⟨⟨_, SqL.of hp2, by rw [List.length_map]; omega⟩, ?_⟩
    have el : i = cs.length := by omega
    refine ⟨_, rfl, D, _, rfl, .inl (SqL.of hac), _, _, rfl, rfl, _, rfl, ?_⟩
    refine ite2 (fun e => ?_) (fun e => ?_)
    · have e : (0 : Int) < ((acc.map V.int).length : Nat) := of_decide_eq_true e
      rw [List.length_map] at e
      refine ⟨_, rfl, (by decide : (2 : Nat) ≤ sizeLine), fun S hSn => ?_⟩
      have hSD : S ≠ D := fun z => by rw [z, hac] at hSn; cases hSn
      refine hQ S D _ ⟨hSD, 0, acc, upd_same, by rw [upd_ne (Ne.symm hSD)]; exact hac, Int.le_refl _, by omega, by omega, hnn⟩
    · refine ⟨(by decide : (1 : Nat) ≤ sizeLine), fun q hq => ⟨(by decide : (2 : Nat) ≤ sizeLine), fun S hSn => ?_⟩⟩
      have hSq : S ≠ q := fun z => by rw [z, upd_same] at hSn; cases hSn
      refine hQ S q _ ⟨hSq, 0, [0], upd_same, by rw [upd_ne (Ne.symm hSq), upd_same]; rfl, Int.le_refl _, by decide, by decide, fun z hz => by rw [List.mem_singleton.mp hz]; exact Int.le_refl _⟩
end
end DL
set_option Elab.async false
set_option linter.all false
set_option autoImplicit false
set_option maxRecDepth 100000
namespace DL
open PySem PySem.Spec
open PyProof.Rows hiding St
open L2
local macro_rules | `(tactic| lcg_off) => `(tactic| simp only [mVar, mC, mNil, mCons, mTup, mTupF, mLst, mFz, mOp, oI0, oI, oEq, oNe, oIsN, oNotN, oIsB, oIsNotB, oCatT, oCatL, oRepT, mRepL, mIx, mSq, mOwn, mTst, mAnd, mOr, mNot, mAndV, mOrV, mNotV, mIf, mNeg, mCall, mCB, cAbs, cInt, mLen, mTupO, mLstO, mLrg1, mSum, mAny, mAll, mIndex, mNoP, mPart, mSlT, mSlL, mIsi, mDGet, mDisp, mPairs, mWeak, mSeqI, mRange1, mRange2, mYes, gNm, gTupD, gConsD, gNilD, mLc, mNext, mSeq, mBreak, mCont, mAsg, mSet, mSetOw, mPar, mPar3, mParO, mParO1, mParOO, mDrop, mRet, mRetN, mIfS, mGive, mApp, mSetIx, mIns, mRem, isOw, onOw, mEqQ, mNeQ, mNewT, mPutT, onDt, mGetT, mFor, startD, List.map_cons, List.map_nil, List.length_cons, List.length_nil, List.cons_append, List.nil_append, List.getElem?_cons_zero, List.getElem?_cons_succ, List.set_cons_zero, List.set_cons_succ, List.replicate_succ, List.replicate_zero, Nat.reduceAdd, Nat.reduceSub, Nat.zero_add, Nat.sub_self, decide_eq_true_eq, Bool.not_eq_true, Bool.not_eq_eq_eq_not, if_true, if_false, ite_true, ite_false, Bool.false_eq_true, noOw, wipeD, List.all_cons, List.all_nil, Bool.and_true, true_and, and_true, D.isNon, Bool.not_true, Bool.not_false])
set_option maxHeartbeats 2000000
section
variable {P : Program} {w : World} {K : PySem.W.Frag} {mg : Str → Option Value} {base : Heap}
def fVals : FS := fun ds Q => ds = [.tok] ∧ Q (.bl true)
def spLaw (K : PySem.W.Frag) : Sp := fun vs H Q _ => ∃ (a : Addr) (ns : List Int), vs = [.ref a] ∧ SqL K H a (ns.map V.int) ∧ ∀ H', Q (.bl true) H'
abbrev N_law : List Str := ["script", "state", "turn"]
theorem S_law : FnScope N_law ["script"] (defScope (top 58)) := ⟨rfl, rfl, rfl, by decide +kernel, rfl, by decide +kernel, by decide +kernel⟩
theorem k_law {k : Nat} {f : Addr} {fd : FuncData} (F : FunD K "law" "law" (defArgs (top 58)) (defBody (top 58)) (defScope (top 58)) [] [] f fd) (Z : Bi mg)
    (CS : ∃ (f : Addr) (fd : FuncData), FnOk P w K mg base CX0 k f fd ["script"] (spState K) ∧ mg "_law_state" = some (.ref f) ∧ PySem.W.keepIn K (.ref f) = true ∧ Binds K fd ["script"] [])
    (CV : CalD P w K mg base "_law_values" k fVals) (CT : CalD P w K mg base "_law_trees" k fVals) : FnOk P w K mg base CX0 (k + 1) f fd ["script"] (spLaw K) := by
  obtain ⟨fs, fds, GS, gS, kpS, bS⟩ := CS
  refine F.ok S_law (fun vs H Q E h => ?_) (fun cdv A outer s H vs Q E hr h => ?_)
  · obtain ⟨a, ns, rfl, _⟩ := h
    rfl
  obtain ⟨a, ns, rfl, hS, hQ⟩ := h
  have body : DSs (cxOf CX0 P w K mg base N_law "law" (defScope (top 58)) f cdv A outer s H E).nox ((defBody (top 58)).drop 1) (mSeq (mFor (mRange1 (mCons (mC (.int 3)) mNil)) (gNm 2) (mIfS (mOr (mNot (mTst (mCall fVals (mCons (mVar 1) mNil)))) (mNot (mTst (mCall fVals (mCons (mVar 1) mNil))))) (mRet (mC (.bl false))) mNext)) (mRet (mC (.bl true)))) :=
    dss_cons (ds_for PassesOwn.never rfl (di_range1 Z.range (da_cons de_int da_nil)) (dg_name (pg_name (i := 2) S_law.nd rfl (by first | exact Or.inl rfl | exact Or.inr rfl))) (dss_one (ds_if (dt_w (dw_or (dt_not (dt_val (de_call CV hr (da_cons (de_var (pv 1)) da_nil)))) (dw_or1 (dt_not (dt_val (de_call CT hr (da_cons (de_var (pv 1)) da_nil))))))) (dss_one (ds_ret de_bl)) dss_nil))) (dss_one (ds_ret de_bl))
  refine ⟨_, pss_cons (ps_set (i := 1) S_law.nd rfl (Or.inl rfl) (pe_call GS hr rfl gS kpS bS .nil pass0 (pa_cons (pv 0) pa_nil))) body.ps |> PSs.nox, ?_⟩
  refine ⟨_, rfl, a, ns, rfl, hS, fun s1 c1 H1 tk => ?_⟩
  refine body.sn ⟨s1, c1, fun _ => none⟩ (fun _ => none) H1 _ [.un, .fz .tok, .un] { nx := fun _ => False, rt := fun d => d = .bl true } _ ?_ ?_ ?_
  · exact { keep := fun a o e => (by cases e), fz := fun a o e => (by cases e), tk := tk, bs := rfl, bc := rfl, fs := rfl, fc := rfl, len := rfl,
            slot := fun i d e => (by
              match i, e with
              | 0, e => cases e
              | 1, e => cases e; exact ⟨.ref s1, rfl, .tok⟩
              | 2, e => cases e
              | n + 3, e => cases e),
            own := fun i p c e => (by
              match i, e with
              | 0, e => cases e
              | 1, e => cases e
              | 2, e => cases e
              | n + 3, e => cases e),
            dis := fun i j p q c d e _ _ => (by
              match i, e with
              | 0, e => cases e
              | 1, e => cases e
              | 2, e => cases e
              | n + 3, e => cases e) }
  · lcg_off
    refine ⟨by decide, by decide, ?_⟩
    refine forD_inv (fun _ G => ∃ e2 : EV, G = [.un, .fz .tok, e2]) ?_ ?_ _ _ ⟨.un, rfl⟩
    · rintro x rest G k hk ⟨e2, rfl⟩
      refine ⟨trivial, ?_⟩
      lcg_off
      refine ⟨rfl, ?_⟩
      simp only [Bool.true_eq_false, if_false]
      refine ⟨rfl, ?_⟩
      simp only [Bool.true_eq_false, if_false]
      exact hk _ ⟨_, rfl⟩
    · rintro G ⟨e2, rfl⟩
      refine ⟨trivial, ?_⟩
      lcg_off
  · refine ⟨fun _ _ _ _ _ _ q => q.elim, fun σ' F' H' G' v d r x p q => ?_, fun _ _ _ _ _ _ q => q.elim, fun _ _ _ _ _ _ q => q.elim⟩
    subst q
    cases p
    exact hQ H'
end
end DL
set_option Elab.async false
set_option linter.all false
set_option autoImplicit false
set_option maxRecDepth 100000
namespace DL
open PySem PySem.Spec
open PyProof.Rows hiding St
open L2
set_option maxHeartbeats 2000000
theorem gf_never {P : Program} {w : World} {K : PySem.W.Frag} {mg : Str → Option Value} {base : Heap} (h : Has K mg "greatest_from" 30) : CalD P w K mg base "greatest_from" 1 (fGF 0) := by
  obtain ⟨f, fd, F, hm⟩ := h
  have no : ∀ {vs : List V} {H : Hp} {Q : VK} {E : XK}, spD K (fGF 0) vs H Q E → False := by
    rintro vs H Q E ⟨s, c, F, ds, Qd, _, _, _, _, _, ⟨n, par, pr, row, G, k, _, _, _, _, h1, h2, _⟩, _⟩
    omega
  exact ⟨f, fd, ["tree", "row", "node"], F.ok (k := 0) S_greatest_from (fun vs H Q E h => (no h).elim) (fun cdv A outer s H vs Q E hr h => (no h).elim), hm, F.kp, F.bindsN fun _ _ _ _ _ _ us hl => match us, hl with | [_, _, _], _ => rfl⟩
structure AllH (K : PySem.W.Frag) (mg : Str → Option Value) : Prop where
  h_divisor : Has K mg "divisor" 1
  h_part : Has K mg "part" 2
  h_is_part : Has K mg "is_part" 3
  h_are_parts : Has K mg "are_parts" 4
  h_plus : Has K mg "plus" 5
  h_minus : Has K mg "minus" 6
  h_times : Has K mg "times" 7
  h_over : Has K mg "over" 8
  h_negative : Has K mg "negative" 9
  h_is_less : Has K mg "is_less" 10
  h_least : Has K mg "least" 11
  h_total : Has K mg "total" 12
  h_dot : Has K mg "dot" 13
  h_ahead : Has K mg "ahead" 15
  h_is_last : Has K mg "is_last" 16
  h_are_chances : Has K mg "are_chances" 19
  h_even : Has K mg "even" 20
  h_chance : Has K mg "chance" 21
  h_mean : Has K mg "mean" 22
  h_worst : Has K mg "worst" 23
  h_sorted_places : Has K mg "sorted_places" 24
  h_worst_weights : Has K mg "worst_weights" 25
  h_accepts_weights : Has K mg "accepts_weights" 26
  h_worst_costs : Has K mg "worst_costs" 27
  h_worst_cost : Has K mg "worst_cost" 28
  h_greatest_cost : Has K mg "greatest_cost" 29
  h_greatest_from : Has K mg "greatest_from" 30
  h_tilted : Has K mg "tilted" 31
  h_share_of : Has K mg "share_of" 32
  h__law_state : Has K mg "_law_state" 34
  h__law_take : Has K mg "_law_take" 35
  h__law_fr : Has K mg "_law_fr" 36
  h__law_add : Has K mg "_law_add" 37
  h__law_mul : Has K mg "_law_mul" 38
  h__law_sub : Has K mg "_law_sub" 39
  h__law_over : Has K mg "_law_over" 40
  h__law_less : Has K mg "_law_less" 41
  h__law_sum : Has K mg "_law_sum" 42
  h__law_dot : Has K mg "_law_dot" 43
  h__law_most : Has K mg "_law_most" 44
  h__law_least : Has K mg "_law_least" 45
  h__law_line_house : Has K mg "_law_line_house" 47
  h__law_price : Has K mg "_law_price" 48
  h__law_tree_of : Has K mg "_law_tree_of" 49
  h__law_threshold : Has K mg "_law_threshold" 52
  h__law_parts_of : Has K mg "_law_parts_of" 53
  h__law_share : Has K mg "_law_share" 54
  h__law_places : Has K mg "_law_places" 55
  h__law_values : Has K mg "_law_values" 56
  h__law_trees : Has K mg "_law_trees" 57
theorem join {P : Program} {w : World} {K : PySem.W.Frag} {mg : Str → Option Value} {base : Heap} (A : AllH K mg) (Z : Bi mg) {v_ONE : V} {u_ONE : Value} (O : mg "ONE" = some u_ONE ∧ RelV v_ONE u_ONE ∧ ∀ s F, Rp K s F v_ONE (.tup [.int 1, .int 1])) {f : Addr} {fd : FuncData} (FL : FunD K "law" "law" (defArgs (top 58)) (defBody (top 58)) (defScope (top 58)) [] [] f fd) : FnOk P w K mg base CX0 15 f fd ["script"] (spLaw K) := by
  have C__law_take : CalD P w K mg base "_law_take" 1 fTake := k__law_take (k := 0) A.h__law_take Z
  have C__law_fr : CalD P w K mg base "_law_fr" 1 fFr := k__law_fr (k := 0) A.h__law_fr Z  (by intro ds Q h; unfold fFr at h; (repeat obtain ⟨_, h⟩ := h); subst_vars; rfl) p__law_fr
  have C__law_parts_of : CalD P w K mg base "_law_parts_of" 2 fParts2 := k__law_parts_of (k := 1) A.h__law_parts_of Z (C__law_take.mono (by decide)) (C__law_fr.mono (by decide)) (by intro ds Q h; unfold fParts2 at h; (repeat obtain ⟨_, h⟩ := h); subst_vars; rfl) p__law_parts_of
  have C__law_share : CalD P w K mg base "_law_share" 2 fShare := k__law_share (k := 1) A.h__law_share Z (C__law_take.mono (by decide)) (by rintro ds Q ⟨rfl, _⟩; rfl) p__law_share
  have C__law_less : CalD P w K mg base "_law_less" 1 fLess := k__law_less (k := 0) A.h__law_less Z  (by intro ds Q h; unfold fLess at h; (repeat obtain ⟨_, h⟩ := h); subst_vars; rfl) p__law_less
  have C__law_add : CalD P w K mg base "_law_add" 2 (fBinL (· + ·)) := k__law_add (k := 1) A.h__law_add Z (C__law_fr.mono (by decide)) (by intro ds Q h; unfold fBinL at h; (repeat obtain ⟨_, h⟩ := h); subst_vars; rfl) p__law_add
  have C__law_mul : CalD P w K mg base "_law_mul" 2 (fBinL (· * ·)) := k__law_mul (k := 1) A.h__law_mul Z (C__law_fr.mono (by decide)) (by intro ds Q h; unfold fBinL at h; (repeat obtain ⟨_, h⟩ := h); subst_vars; rfl) p__law_mul
  have C__law_sub : CalD P w K mg base "_law_sub" 3 (fBinL (· - ·)) := k__law_sub (k := 2) A.h__law_sub Z (C__law_add.mono (by decide)) (by intro ds Q h; unfold fBinL at h; (repeat obtain ⟨_, h⟩ := h); subst_vars; rfl) p__law_sub
  have C__law_over : CalD P w K mg base "_law_over" 2 fOverL := k__law_over (k := 1) A.h__law_over Z (C__law_fr.mono (by decide)) (by intro ds Q h; unfold fOverL at h; (repeat obtain ⟨_, h⟩ := h); subst_vars; rfl) p__law_over
  have C__law_most : CalD P w K mg base "_law_most" 2 fMost := k__law_most (k := 1) A.h__law_most Z (C__law_less.mono (by decide)) (by intro ds Q h; unfold fMost at h; (repeat obtain ⟨_, h⟩ := h); subst_vars; rfl) p__law_most
  have C__law_threshold : CalD P w K mg base "_law_threshold" 4 fThr := k__law_threshold (k := 3) A.h__law_threshold Z (C__law_less.mono (by decide)) (C__law_add.mono (by decide)) (C__law_mul.mono (by decide)) (C__law_sub.mono (by decide)) (C__law_over.mono (by decide)) (C__law_most.mono (by decide)) (by intro ds Q h; unfold fThr at h; (repeat obtain ⟨_, h⟩ := h); subst_vars; rfl) p__law_threshold
  have C__law_places : CalD P w K mg base "_law_places" 2 fPlaces := k__law_places (k := 1) A.h__law_places Z (C__law_less.mono (by decide)) (by intro ds Q h; unfold fPlaces at h; (repeat obtain ⟨_, h⟩ := h); subst_vars; rfl) p__law_places
  have C_is_less : CalD P w K mg base "is_less" 1 fLess := k_is_less (k := 0) A.h_is_less Z  (by intro ds Q h; unfold fLess at h; (repeat obtain ⟨_, h⟩ := h); subst_vars; rfl) p_is_less
  have C_sorted_places : CalD P w K mg base "sorted_places" 2 fPlaces := k_sorted_places (k := 1) A.h_sorted_places Z (C_is_less.mono (by decide)) (by intro ds Q h; unfold fPlaces at h; (repeat obtain ⟨_, h⟩ := h); subst_vars; rfl) p_sorted_places
  have C_least : CalD P w K mg base "least" 2 fLeast2 := k_least (k := 1) A.h_least Z (C_is_less.mono (by decide)) (by intro ds Q h; unfold fLeast2 at h; (repeat obtain ⟨_, h⟩ := h); subst_vars; rfl) p_least
  have C_divisor : CalD P w K mg base "divisor" 1 fDivisor := k_divisor (k := 0) A.h_divisor Z  (by intro ds Q h; unfold fDivisor at h; (repeat obtain ⟨_, h⟩ := h); subst_vars; rfl) p_divisor
  have C_part : CalD P w K mg base "part" 2 fPart := k_part (k := 1) A.h_part Z (C_divisor.mono (by decide)) (by intro ds Q h; unfold fPart at h; (repeat obtain ⟨_, h⟩ := h); subst_vars; rfl) p_part
  have C_plus : CalD P w K mg base "plus" 3 (fBin (· + ·)) := k_plus (k := 2) A.h_plus Z (C_part.mono (by decide)) (by intro ds Q h; unfold fBin at h; (repeat obtain ⟨_, h⟩ := h); subst_vars; rfl) p_plus
  have C_times : CalD P w K mg base "times" 3 (fBin (· * ·)) := k_times (k := 2) A.h_times Z (C_part.mono (by decide)) (by intro ds Q h; unfold fBin at h; (repeat obtain ⟨_, h⟩ := h); subst_vars; rfl) p_times
  have C_minus : CalD P w K mg base "minus" 3 (fBin (· - ·)) := k_minus (k := 2) A.h_minus Z (C_part.mono (by decide)) (by intro ds Q h; unfold fBin at h; (repeat obtain ⟨_, h⟩ := h); subst_vars; rfl) p_minus
  have C_over : CalD P w K mg base "over" 3 fOver := k_over (k := 2) A.h_over Z (C_part.mono (by decide)) (by intro ds Q h; unfold fOver at h; (repeat obtain ⟨_, h⟩ := h); subst_vars; rfl) p_over
  have C_worst : CalD P w K mg base "worst" 4 fWorst := k_worst (k := 3) A.h_worst Z (C_sorted_places.mono (by decide)) (C_least.mono (by decide)) (C_plus.mono (by decide)) (C_times.mono (by decide)) (C_minus.mono (by decide)) (C_over.mono (by decide)) (by intro ds Q h; unfold fWorst at h; (repeat obtain ⟨_, h⟩ := h); subst_vars; rfl) p_worst
  have C__law_least : CalD P w K mg base "_law_least" 2 fLeast2 := k__law_least (k := 1) A.h__law_least Z (C__law_less.mono (by decide)) (by intro ds Q h; unfold fLeast2 at h; (repeat obtain ⟨_, h⟩ := h); subst_vars; rfl) p__law_least
  have C_worst_weights : CalD P w K mg base "worst_weights" 4 fWW := k_worst_weights (k := 3) A.h_worst_weights Z (C_sorted_places.mono (by decide)) (C_least.mono (by decide)) (C_over.mono (by decide)) (C_minus.mono (by decide)) (by intro ds Q h; unfold fWW at h; (repeat obtain ⟨_, h⟩ := h); subst_vars; rfl) p_worst_weights
  have C__law_sum : CalD P w K mg base "_law_sum" 3 fTotalL := k__law_sum (k := 2) A.h__law_sum Z (C__law_add.mono (by decide)) (by intro ds Q h; unfold fTotalL at h; (repeat obtain ⟨_, h⟩ := h); subst_vars; rfl) p__law_sum
  have C__law_dot : CalD P w K mg base "_law_dot" 4 fDotL := k__law_dot (k := 3) A.h__law_dot Z (C__law_sum.mono (by decide)) (C__law_mul.mono (by decide)) (by intro ds Q h; unfold fDotL at h; (repeat obtain ⟨_, h⟩ := h); subst_vars; rfl) p__law_dot
  have C_is_part : CalD P w K mg base "is_part" 2 fIsPart := k_is_part (k := 1) A.h_is_part Z (C_divisor.mono (by decide)) (by intro ds Q h; unfold fIsPart at h; (repeat obtain ⟨_, h⟩ := h); subst_vars; rfl) p_is_part
  have C_are_parts : CalD P w K mg base "are_parts" 3 fAreParts := k_are_parts (k := 2) A.h_are_parts Z (C_is_part.mono (by decide)) (by rintro ds Q ⟨n, ⟨xs, rfl, _⟩ | ⟨qs, rfl, _⟩⟩ <;> rfl) p_are_parts
  have C_total : CalD P w K mg base "total" 4 fTotal := k_total (k := 3) A.h_total Z (C_plus.mono (by decide)) (by intro ds Q h; unfold fTotal at h; (repeat obtain ⟨_, h⟩ := h); subst_vars; rfl) p_total
  have C_dot : CalD P w K mg base "dot" 5 fDot := k_dot (k := 4) A.h_dot Z (C_total.mono (by decide)) (C_times.mono (by decide)) (by intro ds Q h; unfold fDot at h; (repeat obtain ⟨_, h⟩ := h); subst_vars; rfl) p_dot
  have C_accepts_weights : CalD P w K mg base "accepts_weights" 6 fAcc := k_accepts_weights (k := 5) A.h_accepts_weights Z (C_are_parts.mono (by decide)) (C_total.mono (by decide)) (C_is_less.mono (by decide)) (C_over.mono (by decide)) (C_dot.mono (by decide)) O (by rintro ds Q ⟨d, e, n, v, c, s, told, _, _, _, ⟨xs, rfl, _⟩ | ⟨w, a, b, rfl, _⟩⟩ <;> rfl) p_accepts_weights
  have C__law_addG : CalD P w K mg base "_law_add" 2 fAddG := k__law_add (k := 1) A.h__law_add Z (C__law_fr.mono (by decide)) (by intro ds Q h; unfold fAddG at h; (repeat obtain ⟨_, h⟩ := h); subst_vars; rfl) p__law_addG
  have C__law_values : CalD P w K mg base "_law_values" 7 fVals := k__law_values (k := 6) A.h__law_values Z (C__law_take.mono (by decide)) (C__law_fr.mono (by decide)) (C__law_parts_of.mono (by decide)) (C__law_share.mono (by decide)) (C__law_threshold.mono (by decide)) (C__law_places.mono (by decide)) (C_sorted_places.mono (by decide)) (C_worst.mono (by decide)) (C__law_least.mono (by decide)) (C__law_over.mono (by decide)) (C__law_sub.mono (by decide)) (C_worst_weights.mono (by decide)) (C__law_dot.mono (by decide)) (C_accepts_weights.mono (by decide)) (C__law_addG.mono (by decide)) (C__law_less.mono (by decide)) (C__law_mul.mono (by decide)) (by rintro ds Q ⟨rfl, _⟩; rfl) p__law_values
  have C__law_price : CalD P w K mg base "_law_price" 2 fPrice := k__law_price (k := 1) A.h__law_price Z (C__law_fr.mono (by decide)) (C__law_take.mono (by decide)) (by rintro ds Q ⟨rfl, _⟩; rfl) p__law_price
  have C__law_line_house : CalD P w K mg base "_law_line_house" 3 fLH := k__law_line_house (k := 2) A.h__law_line_house Z (C__law_take.mono (by decide)) (C__law_price.mono (by decide)) (by rintro ds Q ⟨rfl, _⟩; rfl) p__law_line_house
  have C__law_tree_of : CalD P w K mg base "_law_tree_of" 1 fTreeOf := k__law_tree_of (k := 0) A.h__law_tree_of Z  (by intro ds Q h; unfold fTreeOf at h; (repeat obtain ⟨_, h⟩ := h); subst_vars; rfl) p__law_tree_of
  have C_ahead : CalD P w K mg base "ahead" 1 fAhead := k_ahead (k := 0) A.h_ahead Z  (by intro ds Q h; unfold fAhead at h; (repeat obtain ⟨_, h⟩ := h); subst_vars; rfl) p_ahead
  have C_is_last : CalD P w K mg base "is_last" 2 fLast := k_is_last (k := 1) A.h_is_last Z (C_ahead.mono (by decide)) (by intro ds Q h; unfold fLast at h; (repeat obtain ⟨_, h⟩ := h); subst_vars; rfl) p_is_last
  have C_are_chances : CalD P w K mg base "are_chances" 5 fChs := k_are_chances (k := 4) A.h_are_chances Z (C_are_parts.mono (by decide)) (C_ahead.mono (by decide)) (C_is_last.mono (by decide)) (C_total.mono (by decide)) O (by rintro ds Q ⟨n, par, pr, d, rfl, _⟩; rfl) p_are_chances
  have C_chance : CalD P w K mg base "chance" 4 fChance := k_chance (k := 3) A.h_chance Z (C_times.mono (by decide)) (C_ahead.mono (by decide)) O (by intro ds Q h; unfold fChance at h; (repeat obtain ⟨_, h⟩ := h); subst_vars; rfl) p_chance
  have C_mean : CalD P w K mg base "mean" 5 fMean := k_mean (k := 4) A.h_mean Z (C_total.mono (by decide)) (C_times.mono (by decide)) (C_chance.mono (by decide)) (by intro ds Q h; unfold fMean at h; (repeat obtain ⟨_, h⟩ := h); subst_vars; rfl) p_mean
  have C_share_of : CalD P w K mg base "share_of" 5 fShareOf := k_share_of (k := 4) A.h_share_of Z (C_total.mono (by decide)) (C_chance.mono (by decide)) (by intro ds Q h; unfold fShareOf at h; (repeat obtain ⟨_, h⟩ := h); subst_vars; rfl) p_share_of
  have C_negative : CalD P w K mg base "negative" 1 fNeg := k_negative (k := 0) A.h_negative Z  (by intro ds Q h; unfold fNeg at h; (repeat obtain ⟨_, h⟩ := h); subst_vars; rfl) p_negative
  have C_worst_costs : CalD P w K mg base "worst_costs" 5 fWC := k_worst_costs (k := 4) A.h_worst_costs Z (C_is_last.mono (by decide)) (C_ahead.mono (by decide)) (C_negative.mono (by decide)) (C_plus.mono (by decide)) (C_worst.mono (by decide)) (by intro ds Q h; unfold fWC at h; (repeat obtain ⟨_, h⟩ := h); subst_vars; rfl) p_worst_costs
  have C_worst_cost : CalD P w K mg base "worst_cost" 6 fWC0 := k_worst_cost (k := 5) A.h_worst_cost Z (C_worst_costs.mono (by decide)) (by intro ds Q h; unfold fWC0 at h; (repeat obtain ⟨_, h⟩ := h); subst_vars; rfl) p_worst_cost
  have C_gf0 : CalD P w K mg base "greatest_from" 3 (fGF 0) := (gf_never A.h_greatest_from).mono (by decide)
  have C_gf1 : CalD P w K mg base "greatest_from" 4 (fGF 1) := k_greatest_from (k := 3) A.h_greatest_from Z (C_ahead.mono (by decide)) (C_gf0.mono (by decide)) (C_is_less.mono (by decide)) (C_plus.mono (by decide)) (by intro ds Q h; unfold fGF at h; (repeat obtain ⟨_, h⟩ := h); subst_vars; rfl) (p_greatest_from 0)
  have C_gf2 : CalD P w K mg base "greatest_from" 5 (fGF 2) := k_greatest_from (k := 4) A.h_greatest_from Z (C_ahead.mono (by decide)) (C_gf1.mono (by decide)) (C_is_less.mono (by decide)) (C_plus.mono (by decide)) (by intro ds Q h; unfold fGF at h; (repeat obtain ⟨_, h⟩ := h); subst_vars; rfl) (p_greatest_from 1)
  have C_gf3 : CalD P w K mg base "greatest_from" 6 (fGF 3) := k_greatest_from (k := 5) A.h_greatest_from Z (C_ahead.mono (by decide)) (C_gf2.mono (by decide)) (C_is_less.mono (by decide)) (C_plus.mono (by decide)) (by intro ds Q h; unfold fGF at h; (repeat obtain ⟨_, h⟩ := h); subst_vars; rfl) (p_greatest_from 2)
  have C_gf4 : CalD P w K mg base "greatest_from" 7 (fGF 4) := k_greatest_from (k := 6) A.h_greatest_from Z (C_ahead.mono (by decide)) (C_gf3.mono (by decide)) (C_is_less.mono (by decide)) (C_plus.mono (by decide)) (by intro ds Q h; unfold fGF at h; (repeat obtain ⟨_, h⟩ := h); subst_vars; rfl) (p_greatest_from 3)
  have C_gf5 : CalD P w K mg base "greatest_from" 8 (fGF 5) := k_greatest_from (k := 7) A.h_greatest_from Z (C_ahead.mono (by decide)) (C_gf4.mono (by decide)) (C_is_less.mono (by decide)) (C_plus.mono (by decide)) (by intro ds Q h; unfold fGF at h; (repeat obtain ⟨_, h⟩ := h); subst_vars; rfl) (p_greatest_from 4)
  have C_gf6 : CalD P w K mg base "greatest_from" 9 (fGF 6) := k_greatest_from (k := 8) A.h_greatest_from Z (C_ahead.mono (by decide)) (C_gf5.mono (by decide)) (C_is_less.mono (by decide)) (C_plus.mono (by decide)) (by intro ds Q h; unfold fGF at h; (repeat obtain ⟨_, h⟩ := h); subst_vars; rfl) (p_greatest_from 5)
  have C_gf7 : CalD P w K mg base "greatest_from" 10 (fGF 7) := k_greatest_from (k := 9) A.h_greatest_from Z (C_ahead.mono (by decide)) (C_gf6.mono (by decide)) (C_is_less.mono (by decide)) (C_plus.mono (by decide)) (by intro ds Q h; unfold fGF at h; (repeat obtain ⟨_, h⟩ := h); subst_vars; rfl) (p_greatest_from 6)
  have C_gf8 : CalD P w K mg base "greatest_from" 11 (fGF 8) := k_greatest_from (k := 10) A.h_greatest_from Z (C_ahead.mono (by decide)) (C_gf7.mono (by decide)) (C_is_less.mono (by decide)) (C_plus.mono (by decide)) (by intro ds Q h; unfold fGF at h; (repeat obtain ⟨_, h⟩ := h); subst_vars; rfl) (p_greatest_from 7)
  have C_gf9 : CalD P w K mg base "greatest_from" 12 (fGF 9) := k_greatest_from (k := 11) A.h_greatest_from Z (C_ahead.mono (by decide)) (C_gf8.mono (by decide)) (C_is_less.mono (by decide)) (C_plus.mono (by decide)) (by intro ds Q h; unfold fGF at h; (repeat obtain ⟨_, h⟩ := h); subst_vars; rfl) (p_greatest_from 8)
  have C_greatest_from := C_gf9
  have C_greatest_cost : CalD P w K mg base "greatest_cost" 13 fGC := k_greatest_cost (k := 12) A.h_greatest_cost Z (C_greatest_from.mono (by decide)) (by intro ds Q h; unfold fGC at h; (repeat obtain ⟨_, h⟩ := h); subst_vars; rfl) p_greatest_cost
  have C_even : CalD P w K mg base "even" 2 fEven := k_even (k := 1) A.h_even Z (C_ahead.mono (by decide)) (by intro ds Q h; unfold fEven at h; (repeat obtain ⟨_, h⟩ := h); subst_vars; rfl) p_even
  have C_tilted : CalD P w K mg base "tilted" 4 fTilt := k_tilted (k := 3) A.h_tilted Z (C_over.mono (by decide)) (by intro ds Q h; unfold fTilt at h; (repeat obtain ⟨_, h⟩ := h); subst_vars; rfl) p_tilted
  have C__law_trees : CalD P w K mg base "_law_trees" 14 fVals := k__law_trees (k := 13) A.h__law_trees Z (C__law_line_house.mono (by decide)) (C__law_tree_of.mono (by decide)) (C__law_parts_of.mono (by decide)) (C__law_fr.mono (by decide)) (C__law_take.mono (by decide)) (C__law_share.mono (by decide)) (C__law_mul.mono (by decide)) (C_are_chances.mono (by decide)) (C_chance.mono (by decide)) (C_mean.mono (by decide)) (C__law_dot.mono (by decide)) (C_share_of.mono (by decide)) (C__law_sum.mono (by decide)) (C__law_sub.mono (by decide)) (C__law_threshold.mono (by decide)) (C_worst_costs.mono (by decide)) (C_worst_cost.mono (by decide)) (C__law_addG.mono (by decide)) (C__law_most.mono (by decide)) (C_greatest_from.mono (by decide)) (C_greatest_cost.mono (by decide)) (C__law_less.mono (by decide)) (C__law_over.mono (by decide)) (C_even.mono (by decide)) (C_tilted.mono (by decide)) (by rintro ds Q ⟨rfl, _⟩; rfl) p__law_trees
  exact k_law (k := 14) FL Z ((k__law_state (k := 13) A.h__law_state Z)) (C__law_values.mono (by decide)) (C__law_trees.mono (by decide))
end DL
set_option Elab.async false
set_option linter.all false
set_option maxRecDepth 100000
set_option maxHeartbeats 0
namespace DL
open PySem PySem.Spec
open PyProof.Rows hiding St
open L2
def mk (x : Str) (i : Nat) : He.DefD := ⟨(x, none), x, x, defArgs (top i), defBody (top i), defScope (top i), [], []⟩
def fnL : List He.DefD := [mk "divisor" 1, mk "part" 2, mk "is_part" 3, mk "are_parts" 4, mk "plus" 5, mk "minus" 6, mk "times" 7, mk "over" 8, mk "negative" 9, mk "is_less" 10, mk "least" 11, mk "total" 12, mk "dot" 13, mk "ahead" 15, mk "is_last" 16, mk "are_chances" 19, mk "even" 20, mk "chance" 21, mk "mean" 22, mk "worst" 23, mk "sorted_places" 24, mk "worst_weights" 25, mk "accepts_weights" 26, mk "worst_costs" 27, mk "worst_cost" 28, mk "greatest_cost" 29, mk "greatest_from" 30, mk "tilted" 31, mk "share_of" 32, mk "_law_state" 34, mk "_law_take" 35, mk "_law_fr" 36, mk "_law_add" 37, mk "_law_mul" 38, mk "_law_sub" 39, mk "_law_over" 40, mk "_law_less" 41, mk "_law_sum" 42, mk "_law_dot" 43, mk "_law_most" 44, mk "_law_least" 45, mk "_law_line_house" 47, mk "_law_price" 48, mk "_law_tree_of" 49, mk "_law_threshold" 52, mk "_law_parts_of" 53, mk "_law_share" 54, mk "_law_places" 55, mk "_law_values" 56, mk "_law_trees" 57, mk "law" 58]
def faL : List He.Fa := [.glo "divisor", .glo "part", .glo "is_part", .glo "are_parts", .glo "plus", .glo "minus", .glo "times", .glo "over", .glo "negative", .glo "is_less", .glo "least", .glo "total", .glo "dot", .glo "ahead", .glo "is_last", .glo "are_chances", .glo "even", .glo "chance", .glo "mean", .glo "worst", .glo "sorted_places", .glo "worst_weights", .glo "accepts_weights", .glo "worst_costs", .glo "worst_cost", .glo "greatest_cost", .glo "greatest_from", .glo "tilted", .glo "share_of", .glo "_law_state", .glo "_law_take", .glo "_law_fr", .glo "_law_add", .glo "_law_mul", .glo "_law_sub", .glo "_law_over", .glo "_law_less", .glo "_law_sum", .glo "_law_dot", .glo "_law_most", .glo "_law_least", .glo "_law_line_house", .glo "_law_price", .glo "_law_tree_of", .glo "_law_threshold", .glo "_law_parts_of", .glo "_law_share", .glo "_law_places", .glo "_law_values", .glo "_law_trees", .glo "law", .glo "ONE", .free "len", .free "range", .free "abs", .free "int", .free "tuple", .free "list", .free "sum", .free "any", .free "all", .free "isinstance", .free "bool", .free "str"]
abbrev R : PySem.W.OpenRow := PySem.W.OpenLaw.row PySem.Challenge.rw_promisewright_k18_whole_worst_shares_by
def oneD : List He.Dv := [.int 1, .int 1]
def obK (g : Addr → Option Obj) : He.AlD × Bool := (He.obsDG 4 faL fnL g, He.tupB (He.frG g (He.asD g 4)) "ONE" oneD)
def hkO : PySem.W.Hook where
  α := He.AlD × Bool
  obs := fun s => obK s.heap.get?
  val := fun _ => (He.valD fnL, true)
  says := fun _ h => ∃ K : PySem.W.Frag, K.In h ∧ He.SaysD faL fnL K ∧ He.tupB K "ONE" oneD = true
  of := fun _ _ e => ⟨_, He.frG_in, congrArg Prod.fst e, congrArg Prod.snd e⟩
  keeps := fun _ _ _ ⟨K, hK, c⟩ k => ⟨K, PySem.W.Frag.In.keeps hK k, c⟩
def ob (s : PySem.W.SharedT) : He.AlD × Bool := obK (HandSHeadRun.getT s)
theorem ob_eq (s : PySem.W.SharedT) : ob s = hkO.obs s.abs := by
  have e : HandSHeadRun.getT s = s.abs.heap.get? := funext (HandSHeadRun.getT_eq s)
  show obK _ = obK _
  rw [e]
def nm1 : List PySem.Str := ["divisor", "part", "is_part", "are_parts", "plus", "minus", "times", "over", "negative", "is_less", "least", "total", "dot", "ahead", "is_last", "are_chances", "even", "chance", "mean", "worst", "sorted_places", "worst_weights", "accepts_weights", "worst_costs", "worst_cost", "greatest_cost", "greatest_from", "tilted", "share_of", "_law_state"]
def nm2 : List PySem.Str := ["_law_take", "_law_fr", "_law_add", "_law_mul", "_law_sub", "_law_over", "_law_less", "_law_sum", "_law_dot", "_law_most", "_law_least", "_law_line_house", "_law_price", "_law_tree_of", "_law_threshold", "_law_parts_of", "_law_share", "_law_places", "_law_values", "_law_trees", "ONE", "_law_part_text", "_law_at", "_law_road"]
abbrev nms : List PySem.Str := nm1 ++ nm2
theorem runL (w : World) : HandSHeadRun.RunEq R (PySem.W.view R.prog [58]) hkO ob 8000 nms w := by
  intro os
  kernel_rfl
theorem facts {P : Program} {w : World} {K : PySem.W.Frag} {h : Heap} {mg : Str → Option Value} {f : Addr} (X : K.In h) (G : h.Ns mainGlobals mg) (hfa : mg ("law" : Str) = some (.ref f)) (c : He.SaysD faL fnL K) (cO : He.tupB K "ONE" oneD = true) :
    ∃ fd : FuncData, (∀ (s : Shared) (v : Value), BindsTo s fd ⟨[v], []⟩ [("script", v)]) ∧ ∀ base : Heap, K.In base → base.Ns mainGlobals mg → FnOk P w K mg base CX0 15 f fd ["script"] (spLaw K) := by
  obtain ⟨fd, F⟩ := c.def_ 50 (d := mk "law" 58) rfl
  have e := hfa.symm.trans (He.glo_ok X G (c.fact 50 (f := .glo "law") rfl))
  cases e
  have b := FunD.bindsA (ps := ["script"]) F fun _ _ _ _ _ _ us hl => match us, hl with | [_], _ => rfl
  have O : mg "ONE" = some (.ref (He.ga K "ONE")) ∧ RelV (.ref (He.ga K "ONE")) (.ref (He.ga K "ONE")) ∧ ∀ s F, Rp K s F (.ref (He.ga K "ONE")) (.tup [.int 1, .int 1]) :=
    ⟨He.glo_ok X G (c.fact 51 (f := .glo "ONE") rfl), rfl, fun s F => .tup (He.tupB_ok cO F) (.cons (.int 1) (.cons (.int 1) .nil))⟩
  have Z : Bi mg := ⟨He.free_ok X G (c.fact 52 (f := .free "len") rfl), He.free_ok X G (c.fact 53 (f := .free "range") rfl), He.free_ok X G (c.fact 54 (f := .free "abs") rfl), He.free_ok X G (c.fact 55 (f := .free "int") rfl), He.free_ok X G (c.fact 56 (f := .free "tuple") rfl), He.free_ok X G (c.fact 57 (f := .free "list") rfl), He.free_ok X G (c.fact 58 (f := .free "sum") rfl), He.free_ok X G (c.fact 59 (f := .free "any") rfl), He.free_ok X G (c.fact 60 (f := .free "all") rfl), He.free_ok X G (c.fact 61 (f := .free "isinstance") rfl), He.free_ok X G (c.fact 62 (f := .free "bool") rfl), He.free_ok X G (c.fact 63 (f := .free "str") rfl)⟩
  have A : AllH K mg := ⟨(let ⟨fd, F⟩ := c.def_ 0 (d := mk "divisor" 1) rfl; ⟨_, fd, F, He.glo_ok X G (c.fact 0 (f := .glo "divisor") rfl)⟩), (let ⟨fd, F⟩ := c.def_ 1 (d := mk "part" 2) rfl; ⟨_, fd, F, He.glo_ok X G (c.fact 1 (f := .glo "part") rfl)⟩), (let ⟨fd, F⟩ := c.def_ 2 (d := mk "is_part" 3) rfl; ⟨_, fd, F, He.glo_ok X G (c.fact 2 (f := .glo "is_part") rfl)⟩), (let ⟨fd, F⟩ := c.def_ 3 (d := mk "are_parts" 4) rfl; ⟨_, fd, F, He.glo_ok X G (c.fact 3 (f := .glo "are_parts") rfl)⟩), (let ⟨fd, F⟩ := c.def_ 4 (d := mk "plus" 5) rfl; ⟨_, fd, F, He.glo_ok X G (c.fact 4 (f := .glo "plus") rfl)⟩), (let ⟨fd, F⟩ := c.def_ 5 (d := mk "minus" 6) rfl; ⟨_, fd, F, He.glo_ok X G (c.fact 5 (f := .glo "minus") rfl)⟩), (let ⟨fd, F⟩ := c.def_ 6 (d := mk "times" 7) rfl; ⟨_, fd, F, He.glo_ok X G (c.fact 6 (f := .glo "times") rfl)⟩), (let ⟨fd, F⟩ := c.def_ 7 (d := mk "over" 8) rfl; ⟨_, fd, F, He.glo_ok X G (c.fact 7 (f := .glo "over") rfl)⟩), (let ⟨fd, F⟩ := c.def_ 8 (d := mk "negative" 9) rfl; ⟨_, fd, F, He.glo_ok X G (c.fact 8 (f := .glo "negative") rfl)⟩), (let ⟨fd, F⟩ := c.def_ 9 (d := mk "is_less" 10) rfl; ⟨_, fd, F, He.glo_ok X G (c.fact 9 (f := .glo "is_less") rfl)⟩), (let ⟨fd, F⟩ := c.def_ 10 (d := mk "least" 11) rfl; ⟨_, fd, F, He.glo_ok X G (c.fact 10 (f := .glo "least") rfl)⟩), (let ⟨fd, F⟩ := c.def_ 11 (d := mk "total" 12) rfl; ⟨_, fd, F, He.glo_ok X G (c.fact 11 (f := .glo "total") rfl)⟩), (let ⟨fd, F⟩ := c.def_ 12 (d := mk "dot" 13) rfl; ⟨_, fd, F, He.glo_ok X G (c.fact 12 (f := .glo "dot") rfl)⟩), (let ⟨fd, F⟩ := c.def_ 13 (d := mk "ahead" 15) rfl; ⟨_, fd, F, He.glo_ok X G (c.fact 13 (f := .glo "ahead") rfl)⟩), (let ⟨fd, F⟩ := c.def_ 14 (d := mk "is_last" 16) rfl; ⟨_, fd, F, He.glo_ok X G (c.fact 14 (f := .glo "is_last") rfl)⟩), (let ⟨fd, F⟩ := c.def_ 15 (d := mk "are_chances" 19) rfl; ⟨_, fd, F, He.glo_ok X G (c.fact 15 (f := .glo "are_chances") rfl)⟩), (let ⟨fd, F⟩ := c.def_ 16 (d := mk "even" 20) rfl; ⟨_, fd, F, He.glo_ok X G (c.fact 16 (f := .glo "even") rfl)⟩), (let ⟨fd, F⟩ := c.def_ 17 (d := mk "chance" 21) rfl; ⟨_, fd, F, He.glo_ok X G (c.fact 17 (f := .glo "chance") rfl)⟩), (let ⟨fd, F⟩ := c.def_ 18 (d := mk "mean" 22) rfl; ⟨_, fd, F, He.glo_ok X G (c.fact 18 (f := .glo "mean") rfl)⟩), (let ⟨fd, F⟩ := c.def_ 19 (d := mk "worst" 23) rfl; ⟨_, fd, F, He.glo_ok X G (c.fact 19 (f := .glo "worst") rfl)⟩), (let ⟨fd, F⟩ := c.def_ 20 (d := mk "sorted_places" 24) rfl; ⟨_, fd, F, He.glo_ok X G (c.fact 20 (f := .glo "sorted_places") rfl)⟩), (let ⟨fd, F⟩ := c.def_ 21 (d := mk "worst_weights" 25) rfl; ⟨_, fd, F, He.glo_ok X G (c.fact 21 (f := .glo "worst_weights") rfl)⟩), (let ⟨fd, F⟩ := c.def_ 22 (d := mk "accepts_weights" 26) rfl; ⟨_, fd, F, He.glo_ok X G (c.fact 22 (f := .glo "accepts_weights") rfl)⟩), (let ⟨fd, F⟩ := c.def_ 23 (d := mk "worst_costs" 27) rfl; ⟨_, fd, F, He.glo_ok X G (c.fact 23 (f := .glo "worst_costs") rfl)⟩), (let ⟨fd, F⟩ := c.def_ 24 (d := mk "worst_cost" 28) rfl; ⟨_, fd, F, He.glo_ok X G (c.fact 24 (f := .glo "worst_cost") rfl)⟩), (let ⟨fd, F⟩ := c.def_ 25 (d := mk "greatest_cost" 29) rfl; ⟨_, fd, F, He.glo_ok X G (c.fact 25 (f := .glo "greatest_cost") rfl)⟩), (let ⟨fd, F⟩ := c.def_ 26 (d := mk "greatest_from" 30) rfl; ⟨_, fd, F, He.glo_ok X G (c.fact 26 (f := .glo "greatest_from") rfl)⟩), (let ⟨fd, F⟩ := c.def_ 27 (d := mk "tilted" 31) rfl; ⟨_, fd, F, He.glo_ok X G (c.fact 27 (f := .glo "tilted") rfl)⟩), (let ⟨fd, F⟩ := c.def_ 28 (d := mk "share_of" 32) rfl; ⟨_, fd, F, He.glo_ok X G (c.fact 28 (f := .glo "share_of") rfl)⟩), (let ⟨fd, F⟩ := c.def_ 29 (d := mk "_law_state" 34) rfl; ⟨_, fd, F, He.glo_ok X G (c.fact 29 (f := .glo "_law_state") rfl)⟩), (let ⟨fd, F⟩ := c.def_ 30 (d := mk "_law_take" 35) rfl; ⟨_, fd, F, He.glo_ok X G (c.fact 30 (f := .glo "_law_take") rfl)⟩), (let ⟨fd, F⟩ := c.def_ 31 (d := mk "_law_fr" 36) rfl; ⟨_, fd, F, He.glo_ok X G (c.fact 31 (f := .glo "_law_fr") rfl)⟩), (let ⟨fd, F⟩ := c.def_ 32 (d := mk "_law_add" 37) rfl; ⟨_, fd, F, He.glo_ok X G (c.fact 32 (f := .glo "_law_add") rfl)⟩), (let ⟨fd, F⟩ := c.def_ 33 (d := mk "_law_mul" 38) rfl; ⟨_, fd, F, He.glo_ok X G (c.fact 33 (f := .glo "_law_mul") rfl)⟩), (let ⟨fd, F⟩ := c.def_ 34 (d := mk "_law_sub" 39) rfl; ⟨_, fd, F, He.glo_ok X G (c.fact 34 (f := .glo "_law_sub") rfl)⟩), (let ⟨fd, F⟩ := c.def_ 35 (d := mk "_law_over" 40) rfl; ⟨_, fd, F, He.glo_ok X G (c.fact 35 (f := .glo "_law_over") rfl)⟩), (let ⟨fd, F⟩ := c.def_ 36 (d := mk "_law_less" 41) rfl; ⟨_, fd, F, He.glo_ok X G (c.fact 36 (f := .glo "_law_less") rfl)⟩), (let ⟨fd, F⟩ := c.def_ 37 (d := mk "_law_sum" 42) rfl; ⟨_, fd, F, He.glo_ok X G (c.fact 37 (f := .glo "_law_sum") rfl)⟩), (let ⟨fd, F⟩ := c.def_ 38 (d := mk "_law_dot" 43) rfl; ⟨_, fd, F, He.glo_ok X G (c.fact 38 (f := .glo "_law_dot") rfl)⟩), (let ⟨fd, F⟩ := c.def_ 39 (d := mk "_law_most" 44) rfl; ⟨_, fd, F, He.glo_ok X G (c.fact 39 (f := .glo "_law_most") rfl)⟩), (let ⟨fd, F⟩ := c.def_ 40 (d := mk "_law_least" 45) rfl; ⟨_, fd, F, He.glo_ok X G (c.fact 40 (f := .glo "_law_least") rfl)⟩), (let ⟨fd, F⟩ := c.def_ 41 (d := mk "_law_line_house" 47) rfl; ⟨_, fd, F, He.glo_ok X G (c.fact 41 (f := .glo "_law_line_house") rfl)⟩), (let ⟨fd, F⟩ := c.def_ 42 (d := mk "_law_price" 48) rfl; ⟨_, fd, F, He.glo_ok X G (c.fact 42 (f := .glo "_law_price") rfl)⟩), (let ⟨fd, F⟩ := c.def_ 43 (d := mk "_law_tree_of" 49) rfl; ⟨_, fd, F, He.glo_ok X G (c.fact 43 (f := .glo "_law_tree_of") rfl)⟩), (let ⟨fd, F⟩ := c.def_ 44 (d := mk "_law_threshold" 52) rfl; ⟨_, fd, F, He.glo_ok X G (c.fact 44 (f := .glo "_law_threshold") rfl)⟩), (let ⟨fd, F⟩ := c.def_ 45 (d := mk "_law_parts_of" 53) rfl; ⟨_, fd, F, He.glo_ok X G (c.fact 45 (f := .glo "_law_parts_of") rfl)⟩), (let ⟨fd, F⟩ := c.def_ 46 (d := mk "_law_share" 54) rfl; ⟨_, fd, F, He.glo_ok X G (c.fact 46 (f := .glo "_law_share") rfl)⟩), (let ⟨fd, F⟩ := c.def_ 47 (d := mk "_law_places" 55) rfl; ⟨_, fd, F, He.glo_ok X G (c.fact 47 (f := .glo "_law_places") rfl)⟩), (let ⟨fd, F⟩ := c.def_ 48 (d := mk "_law_values" 56) rfl; ⟨_, fd, F, He.glo_ok X G (c.fact 48 (f := .glo "_law_values") rfl)⟩), (let ⟨fd, F⟩ := c.def_ 49 (d := mk "_law_trees" 57) rfl; ⟨_, fd, F, He.glo_ok X G (c.fact 49 (f := .glo "_law_trees") rfl)⟩)⟩
  exact ⟨fd, fun s v => b s [v] rfl, fun base _ _ => join A Z O F⟩
end DL
open PySem PySem.W PySem.Calls PyProof.Rows
theorem PySem.Challenge.cw_promisewright_k18_whole_worst_shares_by_holds : PySem.Challenge.rw_promisewright_k18_whole_worst_shares_by.Holds := by
  w_on; o_law
  refine HandSHeadRun.head_any (r := OpenLaw.row PySem.Challenge.rw_promisewright_k18_whole_worst_shares_by) (q := view (OpenLaw.row PySem.Challenge.rw_promisewright_k18_whole_worst_shares_by).prog [58]) (H := DL.hkO) (ob := DL.ob) (M := 8000) (loose := DL.nms) (d := HandSHeadRun.topDef (OpenLaw.row PySem.Challenge.rw_promisewright_k18_whole_worst_shares_by).prog 58) (kwd := []) DL.ob_eq
    (by kernel_rfl) (fun s => by kernel_rfl) DL.runL (by kernel_rfl) (by kernel_rfl) (by kernel_rfl) (by rfl) (by first | assumption | decide +kernel) (by decide +kernel) ⟨rfl, rfl, rfl, rfl, rfl, by decide +kernel⟩ ?hw ?hc
  case hw => w_witness2
  case hc =>
    refine L2.walk_ofE (l := PySem.Challenge.rw_promisewright_k18_whole_worst_shares_by) (n := 63) (k := 15) (x := "script") (CX := L2.CX0) rfl (by decide) (by kernel_rfl) ⟨rfl, by decide, by decide⟩ ?F (fun _ _ _ _ z => z)
    intro w mg fa h Y G hmg0
    obtain ⟨K, KX, c, cO⟩ := Y
    have hmg : mg ("law" : PySem.Str) = some (.ref fa) := by
      have e : (HandSHeadRun.topDef (OpenLaw.row PySem.Challenge.rw_promisewright_k18_whole_worst_shares_by).prog 58).name = ("law" : PySem.Str) := by kernel_rfl
      rw [← e]
      exact hmg0
    obtain ⟨fd, hb, hF⟩ := DL.facts (P := (PySem.Challenge.rw_promisewright_k18_whole_worst_shares_by).prog) (w := w) KX G hmg c cO
    exact ⟨K, fd, DL.spLaw K, KX, hb, fun H a ns hl _ hS => ⟨a, ns, rfl, hS, fun _ => rfl⟩, hF⟩
