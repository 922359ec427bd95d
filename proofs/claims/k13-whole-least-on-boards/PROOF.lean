import PyProof.Rows.All
import Wide.All
import OpenK.AllK
import Wide.FinOn
import HandS.ForMost
import HandS.ForExc
import HandS.ExcCtx
import HandS.Deep
import HandS.SortRule
import HandS.TupLe
import HandS.IsInst
import HandS.Conv
import HandS.Sort
import HandS.More
import HandS.Iter
import KE.KDictSum
import KE.KDictList
import PySem.Challenge.RW_coinrows_k13_whole_least_on_boards
set_option Elab.async false
set_option linter.all false
set_option maxRecDepth 100000
set_option maxHeartbeats 4000000
namespace Cn
open PySem PySem.Spec PyProof.Rows L2

/-! ### pure data, results -/
inductive D where
  | non | bl (b : Bool) | int (i : Int) | str (s : Str)
  | lst (xs : List D) | tup (xs : List D) | scr (ns : List Int) | dct (ks : List Int) | dctT (ks : List (List Int)) | err (a : Addr)
  /-- a tuple of two lists, each its own -/
  | two (xs ys : List Int)

inductive R (α : Type) where
  | ok (a : α) | ex (c : Str) | stuck

def R.bind {α β : Type} : R α → (α → R β) → R β
  | .ok a, f => f a
  | .ex c, _ => .ex c
  | .stuck, _ => .stuck

def kT : HO → Prop := fun _ => True

mutual
inductive Rp (K : PySem.W.Frag) (G : Hp) : V → D → Prop
  | non : Rp K G .non .non
  | bl (b : Bool) : Rp K G (.bl b) (.bl b)
  | int (i : Int) : Rp K G (.int i) (.int i)
  | str (x : Str) : Rp K G (.str x) (.str x)
  | lst {a : Addr} {xs : List V} {ds : List D} : G a = some (.lst xs) → RpAll K G xs ds → Rp K G (.ref a) (.lst ds)
  | tup {a : Addr} {xs : List V} {ds : List D} : G a = some (.tup xs) → RpAll K G xs ds → Rp K G (.ref a) (.tup ds)
  | scr {a : Addr} {ns : List Int} : SqL K G a (ns.map V.int) → Rp K G (.ref a) (.scr ns)
  | dct {a : Addr} {ks : List Int} : G a = some (.dK (ks.map fun k => ((Sum.inl k : Key), V.bl true))) → Rp K G (.ref a) (.dct ks)
  | dctT {a : Addr} {ks : List (List Int)} : G a = some (.dT (ks.map fun t => (t.map (fun k => (Sum.inl k : Key)), V.bl true))) → Rp K G (.ref a) (.dctT ks)
  | err (a : Addr) : Rp K G (.ref a) (.err a)
  | two {t a b : Addr} {xs ys : List Int} : G t = some (.tup [.ref a, .ref b]) → G a = some (.lst (xs.map V.int)) → G b = some (.lst (ys.map V.int)) → a ≠ b → Rp K G (.ref t) (.two xs ys)
inductive RpAll (K : PySem.W.Frag) (G : Hp) : List V → List D → Prop
  | nil : RpAll K G [] []
  | cons {v : V} {vs : List V} {d : D} {ds : List D} : Rp K G v d → RpAll K G vs ds → RpAll K G (v :: vs) (d :: ds)
end

theorem rd_same {H H' : Hp} {a : Addr} {u : HO} (e : Same H H') (h : Rd H a u) : Rd H' a u := by
  rcases h with h | ⟨o, h⟩
  · exact .inl (e _ _ h)
  · exact .inr ⟨o, e _ _ h⟩

section
variable {K : PySem.W.Frag} {G G' H H' : Hp}
mutual
theorem Rp.mono (e : Same G G') : ∀ {v : V} {d : D}, Rp K G v d → Rp K G' v d
  | _, _, .non => .non
  | _, _, .bl b => .bl b
  | _, _, .int b => .int b
  | _, _, .str b => .str b
  | _, _, .lst h r => .lst (e _ _ h) (RpAll.mono e r)
  | _, _, .tup h r => .tup (e _ _ h) (RpAll.mono e r)
  | _, _, .scr h => .scr (e.seq h)
  | _, _, .dct h => .dct (e _ _ h)
  | _, _, .dctT h => .dctT (e _ _ h)
  | _, _, .err a => .err a
  | _, _, .two h1 h2 h3 h4 => .two (e _ _ h1) (e _ _ h2) (e _ _ h3) h4
theorem RpAll.mono (e : Same G G') : ∀ {vs : List V} {ds : List D}, RpAll K G vs ds → RpAll K G' vs ds
  | _, _, .nil => .nil
  | _, _, .cons h r => .cons (Rp.mono e h) (RpAll.mono e r)
end

theorem RpAll.length : ∀ {vs : List V} {ds : List D}, RpAll K G vs ds → vs.length = ds.length
  | _, _, .nil => rfl
  | _, _, .cons _ r => by rw [List.length_cons, List.length_cons, RpAll.length r]
theorem RpAll.get : ∀ {vs : List V} {ds : List D} {i : Nat} {d : D}, RpAll K G vs ds → ds[i]? = some d → ∃ v, vs[i]? = some v ∧ Rp K G v d
  | _, _, _, _, .nil, e => by simp at e
  | _, _, 0, _, .cons h _, e => by simp at e; subst e; exact ⟨_, rfl, h⟩
  | _, _, i + 1, d, .cons _ r, e => by
    obtain ⟨v, h1, h2⟩ := RpAll.get (i := i) (d := d) r (by simpa using e)
    exact ⟨v, by simpa using h1, h2⟩
theorem RpAll.get' : ∀ {vs : List V} {ds : List D} {i : Nat} {v : V}, RpAll K G vs ds → vs[i]? = some v → ∃ d, ds[i]? = some d ∧ Rp K G v d
  | _, _, _, _, .nil, e => by simp at e
  | _, _, 0, _, .cons h _, e => by simp at e; subst e; exact ⟨_, rfl, h⟩
  | _, _, i + 1, d, .cons _ r, e => by
    obtain ⟨v, h1, h2⟩ := RpAll.get' (i := i) (v := d) r (by simpa using e)
    exact ⟨v, by simpa using h1, h2⟩
theorem RpAll.append : ∀ {vs ws : List V} {ds es : List D}, RpAll K G vs ds → RpAll K G ws es → RpAll K G (vs ++ ws) (ds ++ es)
  | _, _, _, _, .nil, s => s
  | _, _, _, _, .cons h r, s => .cons h (RpAll.append r s)
theorem RpAll.take : ∀ {vs : List V} {ds : List D} (n : Nat), RpAll K G vs ds → RpAll K G (vs.take n) (ds.take n)
  | _, _, 0, _ => .nil
  | _, _, _ + 1, .nil => .nil
  | _, _, n + 1, .cons h r => .cons h (RpAll.take n r)
theorem RpAll.drop : ∀ {vs : List V} {ds : List D} (n : Nat), RpAll K G vs ds → RpAll K G (vs.drop n) (ds.drop n)
  | _, _, 0, r => r
  | _, _, _ + 1, .nil => .nil
  | _, _, n + 1, .cons _ r => RpAll.drop n r
theorem RpAll.set {v : V} {d : D} (h : Rp K G v d) : ∀ {vs : List V} {ds : List D} (i : Nat), RpAll K G vs ds → RpAll K G (vs.set i v) (ds.set i d)
  | _, _, _, .nil => .nil
  | _, _, 0, .cons _ r => .cons h r
  | _, _, i + 1, .cons q r => .cons q (RpAll.set h i r)
theorem RpAll.ints {vs : List V} {ns : List Int} (r : RpAll K G vs (ns.map D.int)) : vs = ns.map V.int := by
  induction ns generalizing vs with
  | nil => cases r; rfl
  | cons n ns ih =>
    cases r with
    | cons h r =>
      cases h
      rw [ih r]; rfl
theorem rp_ints (ns : List Int) : RpAll K G (ns.map V.int) (ns.map D.int) := by
  induction ns with
  | nil => exact .nil
  | cons n ns ih => exact .cons (.int n) ih

/-- the state has grown: the clean part G within H -/
structure Ext (G H G' H' : Hp) : Prop where
  sub : Same G' H'
  hh : Same H H'
  gg : ∀ a, (∀ xs, H a ≠ some (.tup xs)) → H a ≠ none → G' a = G a
  sm : Same G G'

theorem Ext.refl (h : Same G H) : Ext G H G H := ⟨h, Same.refl H, fun _ _ _ => rfl, Same.refl G⟩
theorem Ext.trans {G1 H1 G2 H2 : Hp} (a : Ext G H G1 H1) (b : Ext G1 H1 G2 H2) : Ext G H G2 H2 :=
  ⟨b.sub, a.hh.trans b.hh, fun x hn hx => by
    have h1 : H1 x = H x := by
      cases q : H x with
      | none => exact (hx q).elim
      | some o => exact a.hh x o q
    rw [b.gg x (by rw [h1]; exact hn) (by rw [h1]; exact hx), a.gg x hn hx], a.sm.trans b.sm⟩
theorem Ext.same (e : Ext G H G' H') (s : Same G H) : Same G G' := e.sm
theorem Ext.out (e : Ext G H G' H') {p : Addr} {o : HO} (h : H p = some o) (hn : ∀ xs, o ≠ .tup xs) (g : G p = none) : G' p = none := by
  rw [e.gg p (fun xs z => by rw [h] at z; exact hn xs (Option.some.inj z)) (by rw [h]; simp)]; exact g
theorem upd_none {p a : Addr} {o : HO} (h : a ≠ p) (q : H a = none) : upd H p o a = none := by rw [upd_ne h]; exact q
theorem Same.upd {p : Addr} {o : HO} (h : H p = none) : Same H (upd H p o) := fun b u q => by rw [upd_ne (ne_of_none q h)]; exact q
/-- a new clean object -/
theorem Ext.new {p : Addr} {o : HO} (s : Same G H) (h : H p = none) : Ext G H (upd G p o) (upd H p o) :=
  ⟨fun a u q => by
    by_cases e : a = p
    · subst e; rw [upd_same] at q ⊢; exact q
    · rw [upd_ne e] at q ⊢; exact s a u q,
   Same.upd h, fun a _ ha => by rw [upd_ne (fun e => ha (by rw [e]; exact h))], Same.upd (s.free h)⟩
theorem Same.free' (e : Same G H) {p : Addr} (h : H p = none) : G p = none := e.free h
/-- a new object that is not clean -/
theorem Ext.newOwn {p : Addr} {o : HO} (s : Same G H) (h : H p = none) : Ext G H G (upd H p o) :=
  ⟨s.trans (Same.upd h), Same.upd h, fun _ _ _ => rfl, Same.refl G⟩

/-- what an own object holds -/
def OwnR (K : PySem.W.Frag) (G : Hp) (o : HO) : D → Prop
  | .lst ds => ∃ xs, o = .lst xs ∧ RpAll K G xs ds
  | .dct ks => o = .dK (ks.map fun k => ((Sum.inl k : Key), V.bl true))
  | .dctT ks => o = .dT (ks.map fun t => (t.map (fun k => (Sum.inl k : Key)), V.bl true))
  | _ => False
theorem OwnR.mono {o : HO} (e : Same G G') : ∀ {d : D}, OwnR K G o d → OwnR K G' o d
  | .lst _, ⟨xs, h, r⟩ => ⟨xs, h, r.mono e⟩
  | .dct _, h => h
  | .dctT _, h => h
theorem OwnR.rp {o : HO} {p : Addr} : ∀ {d : D}, OwnR K G o d → G p = some o → Rp K G (.ref p) d
  | .lst _, ⟨xs, h, r⟩, e => .lst (by rw [e, h]) r
  | .dct _, h, e => .dct (by rw [e]; exact congrArg some h)
  | .dctT _, h, e => .dctT (by rw [e]; exact congrArg some h)

theorem OwnR.nt {o : HO} : ∀ {d : D}, OwnR K G o d → ∀ xs, o ≠ .tup xs
  | .lst _, ⟨_, h, _⟩, _, z => by rw [h] at z; cases z
  | .dct _, h, _, z => by
    have h : o = .dK _ := h
    rw [h] at z; cases z
  | .dctT _, h, _, z => by
    have h : o = .dT _ := h
    rw [h] at z; cases z
/-- a value that may be one's own object, for the while -/
def Bp (K : PySem.W.Frag) (G H : Hp) (v : V) (d : D) : Prop := Rp K G v d ∨ ∃ p o, v = .ref p ∧ G p = none ∧ H p = some o ∧ OwnR K G o d
theorem Bp.ext {v : V} {d : D} (s : Same G H) (e : Ext G H G' H') : Bp K G H v d → Bp K G' H' v d
  | .inl h => .inl (h.mono (e.same s))
  | .inr ⟨p, o, h1, h2, h3, h4⟩ => .inr ⟨p, o, h1, e.out h3 h4.nt h2, e.hh _ _ h3, h4.mono (e.same s)⟩
theorem Bp.full {v : V} {d : D} (s : Same G H) : Bp K G H v d → Rp K H v d
  | .inl h => h.mono s
  | .inr ⟨p, o, h1, h2, h3, h4⟩ => by rw [h1]; exact (h4.mono s).rp h3
theorem Bp.int {v : V} {i : Int} : Bp K G H v (.int i) → v = .int i
  | .inl h => by cases h; rfl
  | .inr ⟨_, _, _, _, _, h⟩ => h.elim
theorem Bp.bl {v : V} {i : Bool} : Bp K G H v (.bl i) → v = .bl i
  | .inl h => by cases h; rfl
  | .inr ⟨_, _, _, _, _, h⟩ => h.elim
theorem Bp.str {v : V} {i : Str} : Bp K G H v (.str i) → v = .str i
  | .inl h => by cases h; rfl
  | .inr ⟨_, _, _, _, _, h⟩ => h.elim
theorem Bp.non {v : V} : Bp K G H v .non → v = .non
  | .inl h => by cases h; rfl
  | .inr ⟨_, _, _, _, _, h⟩ => h.elim
theorem Bp.lst {v : V} {ds : List D} (s : Same G H) : Bp K G H v (.lst ds) → ∃ a xs, v = .ref a ∧ H a = some (.lst xs) ∧ RpAll K G xs ds
  | .inl h => by cases h with | lst h r => exact ⟨_, _, rfl, s _ _ h, r⟩
  | .inr ⟨p, o, h1, _, h3, xs, h4, h5⟩ => ⟨p, xs, h1, by rw [h3, h4], h5⟩
theorem Bp.tup {v : V} {ds : List D} : Bp K G H v (.tup ds) → ∃ a xs, v = .ref a ∧ G a = some (.tup xs) ∧ RpAll K G xs ds
  | .inl h => by cases h with | tup h r => exact ⟨_, _, rfl, h, r⟩
  | .inr ⟨_, _, _, _, _, h⟩ => h.elim
theorem Bp.scr {v : V} {ns : List Int} : Bp K G H v (.scr ns) → ∃ a, v = .ref a ∧ SqL K G a (ns.map V.int)
  | .inl h => by cases h with | scr h => exact ⟨_, rfl, h⟩
  | .inr ⟨_, _, _, _, _, h⟩ => h.elim
theorem Bp.dct {v : V} {ks : List Int} (s : Same G H) : Bp K G H v (.dct ks) → ∃ a, v = .ref a ∧ H a = some (.dK (ks.map fun k => ((Sum.inl k : Key), V.bl true)))
  | .inl h => by cases h with | dct h => exact ⟨_, rfl, s _ _ h⟩
  | .inr ⟨p, o, h1, _, h3, h4⟩ => ⟨p, h1, by rw [h3]; exact congrArg some h4⟩
theorem Bp.dctT {v : V} {ks : List (List Int)} (s : Same G H) : Bp K G H v (.dctT ks) → ∃ a, v = .ref a ∧ H a = some (.dT (ks.map fun t => (t.map (fun k => (Sum.inl k : Key)), V.bl true)))
  | .inl h => by cases h with | dctT h => exact ⟨_, rfl, s _ _ h⟩
  | .inr ⟨p, o, h1, _, h3, h4⟩ => ⟨p, h1, by rw [h3]; exact congrArg some h4⟩
end

/-! ### slots -/
inductive Sl where
  | no | val (d : D) | own (d : D)
abbrev En := List Sl

structure Rep (K : PySem.W.Frag) (G0 H0 : Hp) (env : En) (σ : L2.St) (G H : Hp) : Prop where
  len : σ.length = env.length
  ext : Ext G0 H0 G H
  val : ∀ (i : Nat) (d : D), env[i]? = some (.val d) → ∃ v, σ[i]? = some (some v) ∧ Rp K G v d
  own : ∀ (i : Nat) (d : D), env[i]? = some (.own d) → ∃ (p : Addr) (o : HO), σ[i]? = some (some (.ref p)) ∧ H p = some o ∧ G p = none ∧ H0 p = none ∧ OwnR K G o d
  apart : ∀ (i j : Nat) (d e : D) (p : Addr), env[i]? = some (.own d) → env[j]? = some (.own e) → σ[i]? = some (some (.ref p)) → σ[j]? = some (some (.ref p)) → i = j

section
variable {K : PySem.W.Frag} {G0 H0 G H G' H' : Hp} {env : En} {σ : L2.St}
theorem Rep.sub (r : Rep K G0 H0 env σ G H) : Same G H := r.ext.sub
theorem Rep.grow (r : Rep K G0 H0 env σ G H) (e : Ext G H G' H') : Rep K G0 H0 env σ G' H' where
  len := r.len
  ext := r.ext.trans e
  val := fun i d h => let ⟨v, h1, h2⟩ := r.val i d h; ⟨v, h1, h2.mono (e.same r.sub)⟩
  own := fun i d h => let ⟨p, o, h1, h2, h3, h4, h5⟩ := r.own i d h; ⟨p, o, h1, e.hh _ _ h2, e.out h2 h5.nt h3, h4, h5.mono (e.same r.sub)⟩
  apart := r.apart

theorem Rep.setVal {i : Nat} {v : V} {d : D} (r : Rep K G0 H0 env σ G H) (h : Rp K G v d) : Rep K G0 H0 (env.set i (.val d)) (σ.set i (some v)) G H where
  len := by rw [List.length_set, List.length_set, r.len]
  ext := r.ext
  val := fun j e hj => by
    by_cases q : i = j
    · subst q
      by_cases hl : i < env.length
      · rw [List.getElem?_set_self hl] at hj
        cases hj
        exact ⟨v, List.getElem?_set_self (by rw [r.len]; exact hl), h⟩
      · rw [List.getElem?_eq_none (by rw [List.length_set]; omega)] at hj; cases hj
    · rw [List.getElem?_set_ne q] at hj ⊢
      exact r.val j e hj
  own := fun j e hj => by
    by_cases q : i = j
    · subst q
      by_cases hl : i < env.length
      · rw [List.getElem?_set_self hl] at hj; cases hj
      · rw [List.getElem?_eq_none (by rw [List.length_set]; omega)] at hj; cases hj
    · rw [List.getElem?_set_ne q] at hj ⊢
      exact r.own j e hj
  apart := fun j k d1 d2 p h1 h2 h3 h4 => by
    have n1 : i ≠ j := fun q => by
      subst q
      by_cases hl : i < env.length
      · rw [List.getElem?_set_self hl] at h1; cases h1
      · rw [List.getElem?_eq_none (by rw [List.length_set]; omega)] at h1; cases h1
    have n2 : i ≠ k := fun q => by
      subst q
      by_cases hl : i < env.length
      · rw [List.getElem?_set_self hl] at h2; cases h2
      · rw [List.getElem?_eq_none (by rw [List.length_set]; omega)] at h2; cases h2
    rw [List.getElem?_set_ne n1] at h1 h3
    rw [List.getElem?_set_ne n2] at h2 h4
    exact r.apart j k d1 d2 p h1 h2 h3 h4
theorem env_set_case {i j : Nat} {s t : Sl} (h : (env.set i s)[j]? = some t) : (i = j ∧ i < env.length ∧ s = t) ∨ (i ≠ j ∧ env[j]? = some t) := by
  by_cases q : i = j
  · subst q
    by_cases hl : i < env.length
    · rw [List.getElem?_set_self hl] at h
      exact .inl ⟨rfl, hl, Option.some.inj h⟩
    · rw [List.getElem?_eq_none (by rw [List.length_set]; omega)] at h; cases h
  · rw [List.getElem?_set_ne q] at h
    exact .inr ⟨q, h⟩
/-- a slot is forgotten -/
theorem Rep.setNo {i : Nat} {u : Option V} (r : Rep K G0 H0 env σ G H) : Rep K G0 H0 (env.set i .no) (σ.set i u) G H where
  len := by rw [List.length_set, List.length_set, r.len]
  ext := r.ext
  val := fun j e hj => by
    rcases env_set_case hj with ⟨_, _, z⟩ | ⟨q, hj⟩
    · cases z
    · rw [List.getElem?_set_ne q]; exact r.val j e hj
  own := fun j e hj => by
    rcases env_set_case hj with ⟨_, _, z⟩ | ⟨q, hj⟩
    · cases z
    · rw [List.getElem?_set_ne q]; exact r.own j e hj
  apart := fun j k d1 d2 p h1 h2 h3 h4 => by
    rcases env_set_case h1 with ⟨_, _, z⟩ | ⟨n1, h1⟩
    · cases z
    rcases env_set_case h2 with ⟨_, _, z⟩ | ⟨n2, h2⟩
    · cases z
    rw [List.getElem?_set_ne n1] at h3
    rw [List.getElem?_set_ne n2] at h4
    exact r.apart j k d1 d2 p h1 h2 h3 h4
/-- a slot takes a new own object -/
theorem Rep.setOwn {i : Nat} {p : Addr} {o : HO} {d : D} (r : Rep K G0 H0 env σ G H) (np : ∀ (j : Nat) (e : D) (q : Addr), env[j]? = some (.own e) → σ[j]? = some (some (.ref q)) → q ≠ p) (h1 : H p = some o) (h2 : G p = none) (h3 : H0 p = none) (h4 : OwnR K G o d) :
    Rep K G0 H0 (env.set i (.own d)) (σ.set i (some (.ref p))) G H where
  len := by rw [List.length_set, List.length_set, r.len]
  ext := r.ext
  val := fun j e hj => by
    rcases env_set_case hj with ⟨_, _, z⟩ | ⟨q, hj⟩
    · cases z
    · rw [List.getElem?_set_ne q]; exact r.val j e hj
  own := fun j e hj => by
    rcases env_set_case hj with ⟨q, hl, z⟩ | ⟨q, hj⟩
    · cases z; subst q
      exact ⟨p, o, List.getElem?_set_self (by rw [r.len]; exact hl), h1, h2, h3, h4⟩
    · rw [List.getElem?_set_ne q]; exact r.own j e hj
  apart := fun j k d1 d2 q g1 g2 g3 g4 => by
    rcases env_set_case g1 with ⟨n1, hl1, z1⟩ | ⟨n1, g1⟩
    · rcases env_set_case g2 with ⟨n2, _, z2⟩ | ⟨n2, g2⟩
      · exact n1.symm.trans n2
      · subst n1
        rw [List.getElem?_set_self (by rw [r.len]; exact hl1)] at g3
        rw [List.getElem?_set_ne n2] at g4
        cases g3
        exact absurd rfl (np k d2 _ g2 g4)
    · rw [List.getElem?_set_ne n1] at g3
      rcases env_set_case g2 with ⟨n2, hl2, z2⟩ | ⟨n2, g2⟩
      · subst n2
        rw [List.getElem?_set_self (by rw [r.len]; exact hl2)] at g4
        cases g4
        exact absurd rfl (np j d1 _ g1 g3)
      · rw [List.getElem?_set_ne n2] at g4
        exact r.apart j k d1 d2 q g1 g2 g3 g4
/-- the own object at slot i is changed -/
theorem Rep.write {i : Nat} {p : Addr} {o o' : HO} {d d' : D} (r : Rep K G0 H0 env σ G H) (hi : env[i]? = some (.own d)) (hσ : σ[i]? = some (some (.ref p))) (hp : H p = some o) (hg : G p = none) (h0 : H0 p = none) (h4 : OwnR K G o' d') :
    Rep K G0 H0 (env.set i (.own d')) σ G (upd H p o') where
  len := by rw [List.length_set, r.len]
  ext := ⟨fun a u q => by rw [upd_ne (ne_of_none q hg)]; exact r.ext.sub a u q, fun a u q => by rw [upd_ne (ne_of_none q h0)]; exact r.ext.hh a u q, r.ext.gg, r.ext.sm⟩
  val := fun j e hj => by
    rcases env_set_case hj with ⟨_, _, z⟩ | ⟨q, hj⟩
    · cases z
    · exact r.val j e hj
  own := fun j e hj => by
    rcases env_set_case hj with ⟨q, hl, z⟩ | ⟨q, hj⟩
    · cases z; subst q
      exact ⟨p, o', hσ, upd_same, hg, h0, h4⟩
    · obtain ⟨p2, o2, g1, g2, g3, g4, g5⟩ := r.own j e hj
      have ne : p2 ≠ p := fun z => q (r.apart i j d e p hi hj hσ (z ▸ g1))
      exact ⟨p2, o2, g1, by rw [upd_ne ne]; exact g2, g3, g4, g5⟩
  apart := fun j k d1 d2 q g1 g2 g3 g4 => by
    have f : ∀ {m : Nat} {e : D}, (env.set i (Sl.own d'))[m]? = some (Sl.own e) → ∃ e' : D, env[m]? = some (Sl.own e') := fun {m e} z => by
      rcases env_set_case z with ⟨n1, _, _⟩ | ⟨_, z⟩
      · subst n1; exact ⟨d, hi⟩
      · exact ⟨e, z⟩
    obtain ⟨e1, g1⟩ := f g1
    obtain ⟨e2, g2⟩ := f g2
    exact r.apart j k e1 e2 q g1 g2 g3 g4
/-- an own object becomes clean -/
theorem Rep.freeze {i : Nat} {p : Addr} {o : HO} {d : D} (r : Rep K G0 H0 env σ G H) (hi : env[i]? = some (.own d)) (hσ : σ[i]? = some (some (.ref p))) (hp : H p = some o) (hg : G p = none) (h0 : H0 p = none) (h4 : OwnR K G o d) :
    Rep K G0 H0 (env.set i (.val d)) σ (upd G p o) H ∧ Same G (upd G p o) := by
  have sg : Same G (upd G p o) := Same.upd hg
  refine ⟨⟨by rw [List.length_set, r.len], ⟨fun a u q => ?_, r.ext.hh, fun a hn ha => ?_, r.ext.sm.trans sg⟩, fun j e hj => ?_, fun j e hj => ?_, fun j k d1 d2 q g1 g2 g3 g4 => ?_⟩, sg⟩
  · by_cases e : a = p
    · subst e; rw [upd_same] at q; rw [hp]; exact q
    · rw [upd_ne e] at q; exact r.ext.sub a u q
  · rw [upd_ne (fun e => ha (by rw [e]; exact h0))]; exact r.ext.gg a hn ha
  · rcases env_set_case hj with ⟨q, hl, z⟩ | ⟨q, hj⟩
    · cases z; subst q
      exact ⟨_, hσ, (h4.mono sg).rp upd_same⟩
    · obtain ⟨v, g1, g2⟩ := r.val j e hj
      exact ⟨v, g1, g2.mono sg⟩
  · rcases env_set_case hj with ⟨q, hl, z⟩ | ⟨q, hj⟩
    · cases z
    · obtain ⟨p2, o2, g1, g2, g3, g4, g5⟩ := r.own j e hj
      have ne : p2 ≠ p := fun z => q (r.apart i j d e p hi hj hσ (z ▸ g1))
      exact ⟨p2, o2, g1, g2, by rw [upd_ne ne]; exact g3, g4, g5.mono sg⟩
  · rcases env_set_case g1 with ⟨_, _, z⟩ | ⟨_, g1⟩
    · cases z
    rcases env_set_case g2 with ⟨_, _, z⟩ | ⟨_, g2⟩
    · cases z
    exact r.apart j k d1 d2 q g1 g2 g3 g4
end

/-! ### wishes -/
def Wish {α : Type} (mg : Str → Option Value) (E : XK) (G H : Hp) (P : α → Hp → Hp → Prop) : R α → Prop
  | .ok a => ∀ G' H', Ext G H G' H' → P a G' H'
  | .ex c => ∀ G' H' C, Ext G H G' H' → mg c = some (.ref C) → E (.ref C) none H'
  | .stuck => False
theorem Wish.ext {α : Type} {mg : Str → Option Value} {E : XK} {G H G1 H1 : Hp} {P : α → Hp → Hp → Prop} (e : Ext G H G1 H1) : ∀ {r : R α}, Wish mg E G H P r → Wish mg E G1 H1 P r
  | .ok _, h => fun G' H' e' => h G' H' (e.trans e')
  | .ex _, h => fun G' H' C e' hc => h G' H' C (e.trans e') hc
  | .stuck, h => h
theorem Wish.imp {α : Type} {mg : Str → Option Value} {E : XK} {G H : Hp} {P P' : α → Hp → Hp → Prop} (f : ∀ a G' H', Ext G H G' H' → P a G' H' → P' a G' H') : ∀ {r : R α}, Wish mg E G H P r → Wish mg E G H P' r
  | .ok a, h => fun G' H' e' => f a G' H' e' (h G' H' e')
  | .ex _, h => h
  | .stuck, h => h
/-- first r, then k of its value -/
theorem Wish.bind {α β : Type} {mg : Str → Option Value} {E : XK} {G H : Hp} {P : β → Hp → Hp → Prop} {k : α → R β} : ∀ {r : R α}, Wish mg E G H P (r.bind k) → Wish mg E G H (fun a G' H' => Wish mg E G' H' P (k a)) r
  | .ok a, h => fun G' H' e' => Wish.ext (r := k a) e' h
  | .ex _, h => h
  | .stuck, h => h

/-! ### what runs -/
def Re (X : Cx) (e : Expr) : TE := fun σ H Q => ∃ t : TE, PE X e t ∧ t σ H Q
def Rt (X : Cx) (e : Expr) : TT := fun σ H Q => ∃ t : TT, PT X e t ∧ t σ H Q
def Ra (X : Cx) (es : List Expr) : TA := fun σ H Q => ∃ t : TA, PA X es t ∧ t σ H Q
def Rs (X : Cx) (st : Stmt) : TS := fun D σ H => ∃ t : TS, PS X st t ∧ t D σ H
def Rss (X : Cx) (sts : List Stmt) : TS := fun D σ H => ∃ t : TS, PSs X sts t ∧ t D σ H
section
variable {X : Cx}
theorem re_pe {e : Expr} : PE X e (Re X e) := ⟨fun pins s σ H Q I ⟨t, h, q⟩ => h.run pins s σ H Q I q⟩
theorem rt_pt {e : Expr} : PT X e (Rt X e) := ⟨fun pins s σ H Q I ⟨t, h, q⟩ => h.run pins s σ H Q I q⟩
theorem ra_pa {e : List Expr} : PA X e (Ra X e) := ⟨fun pos pins s σ H Q I ⟨t, h, q⟩ => h.run pos pins s σ H Q I q⟩
theorem rs_ps {e : Stmt} : PS X e (Rs X e) := ⟨fun pins s σ H Q I ⟨t, h, q⟩ => h.run pins s σ H Q I q⟩
theorem rss_pss {e : List Stmt} : PSs X e (Rss X e) := ⟨fun pins s σ H Q I ⟨t, h, q⟩ => h.run pins s σ H Q I q⟩
end

abbrev EF := En → R D
abbrev AF := En → R (List D)

/-- clean value -/
def SE (X : Cx) (E : XK) (e : Expr) (f : EF) : Prop := ∀ (G0 H0 : Hp) (env : En) (σ : L2.St) (G H : Hp) (Q : VK), Rep X.K G0 H0 env σ G H →
  Wish X.mg E G H (fun d G' H' => ∀ v, Rp X.K G' v d → Q v H') (f env) → Re X e σ H Q
/-- a value that may be an own object -/
def SB (X : Cx) (E : XK) (e : Expr) (f : EF) : Prop := ∀ (G0 H0 : Hp) (env : En) (σ : L2.St) (G H : Hp) (Q : VK), Rep X.K G0 H0 env σ G H →
  Wish X.mg E G H (fun d G' H' => ∀ v, Bp X.K G' H' v d → Q v H') (f env) → Re X e σ H Q
/-- a new object of one's own -/
def SF (X : Cx) (E : XK) (e : Expr) (f : EF) : Prop := ∀ (G0 H0 : Hp) (env : En) (σ : L2.St) (G H : Hp) (Q : VK), Rep X.K G0 H0 env σ G H →
  Wish X.mg E G H (fun d G' H' => ∀ p o, H p = none → H' p = some o → G' p = none → OwnR X.K G' o d → Q (.ref p) H') (f env) → Re X e σ H Q
/-- a test -/
def ST (X : Cx) (E : XK) (e : Expr) (f : EF) : Prop := ∀ (G0 H0 : Hp) (env : En) (σ : L2.St) (G H : Hp) (Q : Bool → Hp → Prop), Rep X.K G0 H0 env σ G H →
  Wish X.mg E G H (fun d _ H' => ∃ b, d = .bl b ∧ Q b H') (f env) → Rt X e σ H Q
def RpA (K : PySem.W.Frag) (G H : Hp) (vs : List V) (ds : List D) : Prop := RpAll K G vs ds
inductive BpAll (K : PySem.W.Frag) (G H : Hp) : List V → List D → Prop
  | nil : BpAll K G H [] []
  | cons {v : V} {vs : List V} {d : D} {ds : List D} : Bp K G H v d → BpAll K G H vs ds → BpAll K G H (v :: vs) (d :: ds)
def SA (X : Cx) (E : XK) (es : List Expr) (f : AF) : Prop := ∀ (G0 H0 : Hp) (env : En) (σ : L2.St) (G H : Hp) (Q : List V → Hp → Prop), Rep X.K G0 H0 env σ G H →
  Wish X.mg E G H (fun ds G' H' => ∀ vs, RpAll X.K G' vs ds → Q vs H') (f env) → Ra X es σ H Q
def SAb (X : Cx) (E : XK) (es : List Expr) (f : AF) : Prop := ∀ (G0 H0 : Hp) (env : En) (σ : L2.St) (G H : Hp) (Q : List V → Hp → Prop), Rep X.K G0 H0 env σ G H →
  Wish X.mg E G H (fun ds G' H' => ∀ vs, BpAll X.K G' H' vs ds → Q vs H') (f env) → Ra X es σ H Q

section
variable {X : Cx} {E : XK} {e a b : Expr} {f g : EF}
theorem sb (h : SE X E e f) : SB X E e f := fun G0 H0 env σ G H Q r w => h G0 H0 env σ G H Q r (w.imp fun d G' H' _ p v q => p v (.inl q))
theorem se_sf (h : SF X E e f) : SE X E e f := fun G0 H0 env σ G H Q r w => h G0 H0 env σ G H Q r (by
  revert w
  cases f env with
  | ex c => exact fun w => w
  | stuck => exact fun w => w
  | ok d =>
    intro w G' H' e' p o h1 h2 h3 h4
    have sg : Same G' (upd G' p o) := Same.upd h3
    refine w (upd G' p o) H' ⟨fun x u q => ?_, e'.hh, fun x hn hx => ?_, e'.sm.trans sg⟩ (.ref p) ((h4.mono sg).rp upd_same)
    · by_cases z : x = p
      · subst z; rw [upd_same] at q; rw [h2]; exact q
      · rw [upd_ne z] at q; exact e'.sub x u q
    · rw [upd_ne (fun z => hx (by rw [z]; exact h1))]; exact e'.gg x hn hx)
end
end Cn

namespace Cn
open PySem PySem.Spec PyProof.Rows L2

@[irreducible] def LIM : Nat := 1000000
theorem LIM_eq : LIM = 1000000 := by unfold LIM; rfl
theorem lim_le {n : Nat} (h : n ≤ LIM) : n ≤ sizeLine := by rw [LIM_eq] at h; exact Nat.le_trans h (by rw [sizeLine_eq]; decide)
theorem lim_lt {n : Nat} (h : n < LIM) : n < sizeLine := by rw [LIM_eq] at h; exact Nat.lt_of_lt_of_le h (by rw [sizeLine_eq]; decide)

/-! ### operations on data -/
@[irreducible] def inM (i : Int) : Bool := decide (i.natAbs < 18446744073709551616)
@[irreducible] def divOk (j : Int) : Bool := decide (0 < j ∧ j < 1073741824)
@[irreducible] def powOk (i j : Int) : Bool := decide (0 ≤ j ∧ j ≤ 1000000 ∧ i.natAbs < 2 ^ 64)
theorem divOk_iff {j : Int} : divOk j = true ↔ 0 < j ∧ j < 1073741824 := by unfold divOk; exact decide_eq_true_iff
theorem powOk_iff {i j : Int} : powOk i j = true ↔ 0 ≤ j ∧ j ≤ 1000000 ∧ i.natAbs < 2 ^ 64 := by unfold powOk; exact decide_eq_true_iff
def strOkB (s : Str) : Bool := decide (s.length ≤ LIM)
def addD : D → D → R D
  | .int i, .int j => .ok (.int (i + j))
  | .str i, .str j => if i.length + j.length ≤ LIM then .ok (.str (i ++ j)) else .stuck
  | .lst i, .lst j => if i.length + j.length ≤ LIM then .ok (.lst (i ++ j)) else .stuck
  | _, _ => .stuck
def subD : D → D → R D
  | .int i, .int j => .ok (.int (i - j))
  | _, _ => .stuck
def mulD : D → D → R D
  | .int i, .int j => if (inM i || inM j) = true then .ok (.int (i * j)) else .stuck
  | _, _ => .stuck
def fdivD : D → D → R D
  | .int i, .int j => if divOk j = true then .ok (.int (i / j)) else .stuck
  | _, _ => .stuck
def modD : D → D → R D
  | .int i, .int j => if 0 < j then .ok (.int (i % j)) else .stuck
  | _, _ => .stuck
def powD : D → D → R D
  | .int i, .int j => if powOk i j = true then .ok (.int (i ^ j.toNat)) else .stuck
  | _, _ => .stuck
def xorI (i j : Int) : Int := ((i.toNat ^^^ j.toNat : Nat) : Int)
def xorD : D → D → R D
  | .int i, .int j => if 0 ≤ i ∧ 0 ≤ j then .ok (.int (xorI i j)) else .stuck
  | _, _ => .stuck
def ltD : D → D → R D
  | .int i, .int j => .ok (.bl (decide (i < j)))
  | _, _ => .stuck
def gtD : D → D → R D
  | .int i, .int j => .ok (.bl (decide (j < i)))
  | _, _ => .stuck
def geD : D → D → R D
  | .int i, .int j => .ok (.bl (decide (j ≤ i)))
  | _, _ => .stuck
/-- the ints of a list of ints -/
def toInts : List D → Option (List Int)
  | [] => some []
  | .int i :: r => (toInts r).map (i :: ·)
  | _ :: _ => none
theorem toInts_eq : ∀ {ds : List D} {ns : List Int}, toInts ds = some ns → ds = ns.map D.int
  | [], ns, h => by cases (Option.some.inj h); rfl
  | .int i :: r, ns, h => by
    unfold toInts at h
    cases e : toInts r with
    | none => rw [e] at h; cases h
    | some ms =>
      rw [e] at h
      cases (Option.some.inj h)
      rw [toInts_eq e]; rfl
  | .non :: _, ns, h => by cases h
  | .bl _ :: _, ns, h => by cases h
  | .str _ :: _, ns, h => by cases h
  | .lst _ :: _, ns, h => by cases h
  | .tup _ :: _, ns, h => by cases h
  | .scr _ :: _, ns, h => by cases h
  | .dct _ :: _, ns, h => by cases h
  | .dctT _ :: _, ns, h => by cases h
  | .err _ :: _, ns, h => by cases h
  | .two _ _ :: _, ns, h => by cases h
theorem toInts_map : ∀ ns : List Int, toInts (ns.map D.int) = some ns
  | [] => rfl
  | n :: r => by
    show (toInts (r.map D.int)).map (n :: ·) = _
    rw [toInts_map r]; rfl
def leT : List D → List D → R D
  | [.int a, .int b], [.int c, .int d] => .ok (.bl (if a = c then decide (b ≤ d) else decide (a ≤ c)))
  | _, _ => .stuck
def leD : D → D → R D
  | .int i, .int j => .ok (.bl (decide (i ≤ j)))
  | .tup i, .tup j => leT i j
  | _, _ => .stuck

mutual
def D.py : D → PyData
  | .non => .none
  | .bl b => .bool b
  | .int i => .int i
  | .str s => .str s
  | .lst ds => .list (pyL ds)
  | .tup ds => .tuple (pyL ds)
  | .scr _ => .none
  | .dct _ => .none
  | .dctT _ => .none
  | .err _ => .none
  | .two _ _ => .none
def pyL : List D → List PyData
  | [] => []
  | d :: r => D.py d :: pyL r
end
mutual
def plain : D → Bool
  | .non => true
  | .bl _ => true
  | .int _ => true
  | .lst ds => plainL ds
  | .tup ds => plainL ds
  | _ => false
def plainL : List D → Bool
  | [] => true
  | d :: r => plain d && plainL r
end
mutual
def dep : D → Nat
  | .lst ds => depL ds + 1
  | .tup ds => depL ds + 1
  | _ => 0
def depL : List D → Nat
  | [] => 0
  | d :: r => max (dep d) (depL r)
end
def okD (d : D) : Bool := plain d && decide (dep d ≤ 9)
def okL (ds : List D) : Bool := plainL ds && decide (depL ds ≤ 8)

section
variable {K : PySem.W.Frag} {G G' H H' : Hp}
theorem plain_str {x : Str} : plain (.str x) = false := by simp only [plain]
theorem plain_scr {x : List Int} : plain (.scr x) = false := by simp only [plain]
theorem plain_dct {x : List Int} : plain (.dct x) = false := by simp only [plain]
theorem plain_dctT {x : List (List Int)} : plain (.dctT x) = false := by simp only [plain]
theorem plain_err {x : Addr} : plain (.err x) = false := by simp only [plain]
theorem plain_two {x y : List Int} : plain (.two x y) = false := by simp only [plain]
theorem plain_lst {x : List D} : plain (.lst x) = plainL x := by simp only [plain]
theorem plain_tup {x : List D} : plain (.tup x) = plainL x := by simp only [plain]
theorem plainL_cons {d : D} {x : List D} : plainL (d :: x) = (plain d && plainL x) := by simp only [plainL]
theorem py_lst {x : List D} : D.py (.lst x) = .list (pyL x) := by simp only [D.py]
theorem py_tup {x : List D} : D.py (.tup x) = .tuple (pyL x) := by simp only [D.py]
theorem pyL_cons {d : D} {x : List D} : pyL (d :: x) = d.py :: pyL x := by simp only [pyL]
mutual
theorem Rp.dp (s : Same G H) {v : V} {d : D} (r : Rp K G v d) : plain d = true → Dp K H v d.py := by
  cases r with
  | non => exact fun _ => by simp only [D.py]; exact .non
  | bl b => exact fun _ => by simp only [D.py]; exact .bl b
  | int b => exact fun _ => by simp only [D.py]; exact .int b
  | str b => exact fun h => by rw [plain_str] at h; cases h
  | lst e r => exact fun h => by rw [plain_lst] at h; rw [py_lst]; exact .lst (SqL.of (s _ _ e)) (RpAll.dp s r h)
  | tup e r => exact fun h => by rw [plain_tup] at h; rw [py_tup]; exact .tup (SqT.of (s _ _ e)) (RpAll.dp s r h)
  | scr _ => exact fun h => by rw [plain_scr] at h; cases h
  | dct _ => exact fun h => by rw [plain_dct] at h; cases h
  | dctT _ => exact fun h => by rw [plain_dctT] at h; cases h
  | err _ => exact fun h => by rw [plain_err] at h; cases h
  | two _ _ _ _ => exact fun h => by rw [plain_two] at h; cases h
theorem RpAll.dp (s : Same G H) {vs : List V} {ds : List D} (r : RpAll K G vs ds) : plainL ds = true → DpAll K H vs (pyL ds) := by
  cases r with
  | nil => exact fun _ => by simp only [pyL]; exact .nil
  | cons e r =>
    intro h
    rw [plainL_cons, Bool.and_eq_true] at h
    rw [pyL_cons]
    exact .cons (Rp.dp s e h.1) (RpAll.dp s r h.2)
end
mutual
theorem plain_lay : ∀ (d : D), plain d = true → PyData.canLay0 d.py = true ∧ PyData.depth d.py = dep d
  | .non, _ => ⟨by simp only [D.py, PyData.canLay0], by simp only [D.py, PyData.depth, dep]⟩
  | .bl _, _ => ⟨by simp only [D.py, PyData.canLay0], by simp only [D.py, PyData.depth, dep]⟩
  | .int _, _ => ⟨by simp only [D.py, PyData.canLay0], by simp only [D.py, PyData.depth, dep]⟩
  | .str _, h => by rw [plain_str] at h; cases h
  | .scr _, h => by rw [plain_scr] at h; cases h
  | .dct _, h => by rw [plain_dct] at h; cases h
  | .dctT _, h => by rw [plain_dctT] at h; cases h
  | .err _, h => by rw [plain_err] at h; cases h
  | .two _ _, h => by rw [plain_two] at h; cases h
  | .lst ds, h => by
    rw [plain_lst] at h
    have q := plainL_lay ds h
    refine ⟨by simp only [D.py, PyData.canLay0]; exact q.1, by simp only [D.py, PyData.depth, dep]; rw [q.2]⟩
  | .tup ds, h => by
    rw [plain_tup] at h
    have q := plainL_lay ds h
    refine ⟨by simp only [D.py, PyData.canLay0]; exact q.1, by simp only [D.py, PyData.depth, dep]; rw [q.2]⟩
theorem plainL_lay : ∀ (ds : List D), plainL ds = true → PyData.canLayAll0 (pyL ds) = true ∧ PyData.depthAll (pyL ds) = depL ds
  | [], _ => ⟨by simp only [pyL, PyData.canLayAll0], by simp only [pyL, PyData.depthAll, depL]⟩
  | d :: r, h => by
    rw [plainL_cons, Bool.and_eq_true] at h
    have q1 := plain_lay d h.1
    have q2 := plainL_lay r h.2
    refine ⟨by simp only [pyL, PyData.canLayAll0, q1.1, q2.1, Bool.and_self], by simp only [pyL, PyData.depthAll, depL, q1.2, q2.2]⟩
end
theorem okD_iff {d : D} (h : okD d = true) : plain d = true ∧ dep d ≤ 9 := by
  unfold okD at h
  rw [Bool.and_eq_true] at h
  exact ⟨h.1, of_decide_eq_true h.2⟩
theorem okL_lst {ds : List D} (h : okL ds = true) : okD (.lst ds) = true := by
  unfold okL at h
  rw [Bool.and_eq_true] at h
  have h2 := of_decide_eq_true h.2
  unfold okD
  rw [Bool.and_eq_true, plain_lst]
  refine ⟨h.1, decide_eq_true ?_⟩
  simp only [dep]
  omega
theorem okL_tup {ds : List D} (h : okL ds = true) : okD (.tup ds) = true := by
  unfold okL at h
  rw [Bool.and_eq_true] at h
  have h2 := of_decide_eq_true h.2
  unfold okD
  rw [Bool.and_eq_true, plain_tup]
  refine ⟨h.1, decide_eq_true ?_⟩
  simp only [dep]
  omega
theorem ok_shaped {d : D} (h : okD d = true) : SeqAt.shaped d.py = true := by
  have q0 := okD_iff h
  have q := plain_lay d q0.1
  unfold SeqAt.shaped
  rw [q.1, decide_eq_true (show PyData.depth d.py ≤ 64 by rw [q.2]; omega)]
  rfl
theorem ok_dp (s : Same G H) {v : V} {d : D} (h : okD d = true) (r : Rp K G v d) : Dp K H v d.py := Rp.dp s r (okD_iff h).1
end

/-- scalars of one kind, or plain data -/
def eqB : D → D → Option Bool
  | .int i, .int j => some (decide (i = j))
  | .bl i, .bl j => some (decide (i = j))
  | .str i, .str j => some (decide (i = j))
  | .non, .non => some true
  | .lst i, .lst j => if (okL i && okL j) = true then some (PyData.eqvAll (pyL i) (pyL j)) else none
  | .tup i, .tup j => if (okL i && okL j) = true then some (PyData.eqvAll (pyL i) (pyL j)) else none
  | _, _ => none
def eqD (a b : D) : R D := match eqB a b with
  | some k => .ok (.bl k)
  | none => .stuck
def neD (a b : D) : R D := match eqB a b with
  | some k => .ok (.bl (!k))
  | none => .stuck
def isND : D → D → R D
  | .non, .non => .ok (.bl true)
  | .int _, .non => .ok (.bl false)
  | .lst _, .non => .ok (.bl false)
  | .tup _, .non => .ok (.bl false)
  | _, _ => .stuck
def flatD : D → Bool
  | .non => true
  | .bl _ => true
  | .int _ => true
  | .str _ => true
  | _ => false
/-- == of flat values -/
def eqF : D → D → Bool
  | .non, .non => true
  | .bl a, .bl b => a == b
  | .bl a, .int b => (if a then 1 else 0) == b
  | .int a, .bl b => a == (if b then 1 else 0)
  | .int a, .int b => a == b
  | .str a, .str b => a == b
  | _, _ => false
def inB (x : D) : D → Option Bool
  | .lst ds => if (flatD x && ds.all flatD) = true then some (ds.any fun y => eqF y x) else
      if (okD x && okL ds) = true then some ((pyL ds).any fun z => PyData.eqv z x.py) else none
  | .tup ds => if (flatD x && ds.all flatD) = true then some (ds.any fun y => eqF y x) else none
  | .dct ks => match x with
    | .int i => some (decide (i ∈ ks))
    | _ => none
  | .dctT ks => match x with
    | .tup xs => (toInts xs).map fun ns => decide (ns ∈ ks)
    | _ => none
  | _ => none
def inD (x s : D) : R D := match inB x s with
  | some k => .ok (.bl k)
  | none => .stuck
def ninD (x s : D) : R D := match inB x s with
  | some k => .ok (.bl (!k))
  | none => .stuck

/-! ### the operations' rules -/
def OS (X : Cx) (E : XK) (f : Value → Value → Sem Value) (o : D → D → R D) : Prop :=
  ∀ dx dy, ∃ r : L2.R2, OpR X f r ∧ ∀ (G H : Hp) (vx vy : V) (Q : VK), Same G H → Bp X.K G H vx dx → Bp X.K G H vy dy →
    Wish X.mg E G H (fun d G' H' => ∀ v, Rp X.K G' v d → Q v H') (o dx dy) → r vx vy H Q
section
variable {X : Cx} {E : XK}
theorem opr_false {f : Value → Value → Sem Value} : OpR X f (fun _ _ _ _ => False) := fun _ _ _ _ _ _ _ _ _ _ _ _ h => h.elim
theorem wok {mg : Str → Option Value} {G H : Hp} {d : D} {P : D → Hp → Hp → Prop} (w : Wish mg E G H P (.ok d)) (s : Same G H) : P d G H := w G H (Ext.refl s)
theorem wite {α : Type} {mg : Str → Option Value} {G H : Hp} {d : α} {P : α → Hp → Hp → Prop} {c : Prop} [Decidable c] (w : Wish mg E G H P (if c then .ok d else .stuck)) : c ∧ Wish mg E G H P (.ok d) := by
  by_cases h : c
  · rw [if_pos h] at w; exact ⟨h, w⟩
  · rw [if_neg h] at w; exact (show False from w).elim
theorem os_add : OS X E (binaryOp .Add) addD := by
  intro dx dy
  cases dx <;> cases dy <;> first
    | exact ⟨_, opr_false, fun _ _ _ _ _ _ _ _ w => (show False from w).elim⟩
    | skip
  · rename_i i j
    refine ⟨_, op_add, fun G H vx vy Q s bx by' w => ?_⟩
    cases bx.int; cases by'.int
    exact ⟨i, j, rfl, rfl, wok w s _ (.int _)⟩
  · rename_i i j
    refine ⟨_, op_add_str, fun G H vx vy Q s bx by' w => ?_⟩
    cases bx.str; cases by'.str
    obtain ⟨hc, w⟩ := wite (c := i.length + j.length ≤ LIM) w
    exact ⟨i, j, rfl, rfl, lim_le hc, wok w s _ (.str _)⟩
  · rename_i i j
    refine ⟨_, op_cat, fun G H vx vy Q s bx by' w => ?_⟩
    obtain ⟨a, xs, rfl, ha, ra⟩ := bx.lst s
    obtain ⟨b, ys, rfl, hb, rb⟩ := by'.lst s
    obtain ⟨hl, w⟩ := wite (c := i.length + j.length ≤ LIM) w
    refine ⟨a, b, xs, ys, rfl, rfl, ha, hb, lim_le (by rw [ra.length, rb.length]; exact hl), fun p hp => ?_⟩
    have sg : Same G (upd G p (.lst (xs ++ ys))) := Same.upd (s.free hp)
    exact w _ _ (Ext.new s hp) _ (.lst upd_same ((ra.append rb).mono sg))
theorem os_sub : OS X E (binaryOp .Sub) subD := by
  intro dx dy
  cases dx <;> cases dy <;> first
    | exact ⟨_, opr_false, fun _ _ _ _ _ _ _ _ w => (show False from w).elim⟩
    | skip
  rename_i i j
  refine ⟨_, op_sub, fun G H vx vy Q s bx by' w => ?_⟩
  cases bx.int; cases by'.int
  exact ⟨i, j, rfl, rfl, wok w s _ (.int _)⟩
theorem inM_iff {i : Int} (h : inM i = true) : -(2 ^ 64) < i ∧ i < 2 ^ 64 := by
  unfold inM at h
  have := of_decide_eq_true h
  omega
theorem inM_of {i : Int} (h : -(2 ^ 64) < i ∧ i < 2 ^ 64) : inM i = true := by
  unfold inM
  exact decide_eq_true (by omega)
theorem os_mul : OS X E (binaryOp .Mult) mulD := by
  intro dx dy
  cases dx <;> cases dy <;> first
    | exact ⟨_, opr_false, fun _ _ _ _ _ _ _ _ w => (show False from w).elim⟩
    | skip
  rename_i i j
  refine ⟨_, op_mul, fun G H vx vy Q s bx by' w => ?_⟩
  cases bx.int; cases by'.int
  obtain ⟨h, w⟩ := wite (c := (inM i || inM j) = true) w
  rw [Bool.or_eq_true] at h
  exact ⟨i, j, rfl, rfl, h.imp inM_iff inM_iff, wok w s _ (.int _)⟩
theorem os_fdiv : OS X E (binaryOp .FloorDiv) fdivD := by
  intro dx dy
  cases dx <;> cases dy <;> first
    | exact ⟨_, opr_false, fun _ _ _ _ _ _ _ _ w => (show False from w).elim⟩
    | skip
  rename_i i j
  refine ⟨_, op_fdiv, fun G H vx vy Q s bx by' w => ?_⟩
  cases bx.int; cases by'.int
  obtain ⟨h, w⟩ := wite (c := divOk j = true) w
  exact ⟨i, j, rfl, rfl, divOk_iff.mp h, wok w s _ (.int _)⟩
theorem os_mod : OS X E (binaryOp .Mod) modD := by
  intro dx dy
  cases dx <;> cases dy <;> first
    | exact ⟨_, opr_false, fun _ _ _ _ _ _ _ _ w => (show False from w).elim⟩
    | skip
  rename_i i j
  refine ⟨_, op_mod, fun G H vx vy Q s bx by' w => ?_⟩
  cases bx.int; cases by'.int
  obtain ⟨h, w⟩ := wite (c := 0 < j) w
  exact ⟨i, j, rfl, rfl, h, wok w s _ (.int _)⟩
theorem os_pow : OS X E (binaryOp .Pow) powD := by
  intro dx dy
  cases dx <;> cases dy <;> first
    | exact ⟨_, opr_false, fun _ _ _ _ _ _ _ _ w => (show False from w).elim⟩
    | skip
  rename_i i j
  refine ⟨_, op_pow, fun G H vx vy Q s bx by' w => ?_⟩
  cases bx.int; cases by'.int
  obtain ⟨h, w⟩ := wite (c := powOk i j = true) w
  exact ⟨i, j, rfl, rfl, powOk_iff.mp h, wok w s _ (.int _)⟩
theorem os_xor : OS X E (binaryOp .BitXor) xorD := by
  intro dx dy
  cases dx <;> cases dy <;> first
    | exact ⟨_, opr_false, fun _ _ _ _ _ _ _ _ w => (show False from w).elim⟩
    | skip
  rename_i i j
  refine ⟨_, op_xor, fun G H vx vy Q s bx by' w => ?_⟩
  cases bx.int; cases by'.int
  obtain ⟨h, w⟩ := wite (c := 0 ≤ i ∧ 0 ≤ j) w
  refine ⟨i, j, rfl, rfl, ?_⟩
  show Q (.int (Builtin.bitXor i j)) H
  rw [Bits.bitXor_pp h.1 h.2]
  exact wok w s _ (.int _)
theorem os_lt : OS X E (compareOp .Lt) ltD := by
  intro dx dy
  cases dx <;> cases dy <;> first
    | exact ⟨_, opr_false, fun _ _ _ _ _ _ _ _ w => (show False from w).elim⟩
    | skip
  rename_i i j
  refine ⟨_, op_lt, fun G H vx vy Q s bx by' w => ?_⟩
  cases bx.int; cases by'.int
  exact ⟨i, j, rfl, rfl, wok w s _ (.bl _)⟩
theorem os_gt : OS X E (compareOp .Gt) gtD := by
  intro dx dy
  cases dx <;> cases dy <;> first
    | exact ⟨_, opr_false, fun _ _ _ _ _ _ _ _ w => (show False from w).elim⟩
    | skip
  rename_i i j
  refine ⟨_, op_gt, fun G H vx vy Q s bx by' w => ?_⟩
  cases bx.int; cases by'.int
  exact ⟨i, j, rfl, rfl, wok w s _ (.bl _)⟩
theorem os_ge : OS X E (compareOp .GtE) geD := by
  intro dx dy
  cases dx <;> cases dy <;> first
    | exact ⟨_, opr_false, fun _ _ _ _ _ _ _ _ w => (show False from w).elim⟩
    | skip
  rename_i i j
  refine ⟨_, op_ge, fun G H vx vy Q s bx by' w => ?_⟩
  cases bx.int; cases by'.int
  exact ⟨i, j, rfl, rfl, wok w s _ (.bl _)⟩
theorem lex2 (a b c d : Int) : Ob.lexAt (fun j => decide (([a, b] : List Int).getD j 0 = ([c, d] : List Int).getD j 0)) (fun j => decide (([a, b] : List Int).getD j 0 ≤ ([c, d] : List Int).getD j 0)) (decide (([a, b] : List Int).length ≤ ([c, d] : List Int).length)) 0 (min ([a, b] : List Int).length ([c, d] : List Int).length) =
    if a = c then decide (b ≤ d) else decide (a ≤ c) := by
  show (if decide (a = c) = true then (if decide (b = d) = true then decide (2 ≤ 2) else decide (b ≤ d)) else decide (a ≤ c)) = _
  by_cases h1 : a = c
  · rw [if_pos (decide_eq_true h1), if_pos h1]
    by_cases h2 : b = d
    · rw [if_pos (decide_eq_true h2), decide_eq_true (show b ≤ d by omega)]; rfl
    · rw [if_neg (by rw [decide_eq_false h2]; decide)]
  · rw [if_neg (by rw [decide_eq_false h1]; decide), if_neg h1]
theorem two_ints {ds : List D} : (∃ a b, ds = [.int a, .int b]) ∨ ∀ a b, ds ≠ [.int a, .int b] := by
  by_cases h : ∃ a b, ds = [.int a, .int b]
  · exact .inl h
  · exact .inr fun a b e => h ⟨a, b, e⟩
theorem leD_no {i j : List D} (h : (∀ a b, i ≠ [.int a, .int b]) ∨ ∀ a b, j ≠ [.int a, .int b]) : leD (.tup i) (.tup j) = .stuck := by
  show leT i j = .stuck
  unfold leT
  split
  · rcases h with h | h
    · exact absurd rfl (h _ _)
    · exact absurd rfl (h _ _)
  · rfl
theorem os_le (hu : X.A.units < cLine) : OS X E (compareOp .LtE) leD := by
  intro dx dy
  cases dx <;> cases dy <;> first
    | exact ⟨_, opr_false, fun _ _ _ _ _ _ _ _ w => (show False from w).elim⟩
    | skip
  · rename_i i j
    refine ⟨_, op_le, fun G H vx vy Q s bx by' w => ?_⟩
    cases bx.int; cases by'.int
    exact ⟨i, j, rfl, rfl, wok w s _ (.bl _)⟩
  · rename_i i j
    refine ⟨_, op_leT hu, fun G H vx vy Q s bx by' w => ?_⟩
    obtain ⟨a, xs, rfl, ha, ra⟩ := bx.tup
    obtain ⟨b, ys, rfl, hb, rb⟩ := by'.tup
    rcases two_ints (ds := i) with ⟨n1, n2, rfl⟩ | h
    · rcases two_ints (ds := j) with ⟨m1, m2, rfl⟩ | h
      · have g1 := RpAll.ints (ns := [n1, n2]) ra
        have g2 := RpAll.ints (ns := [m1, m2]) rb
        subst g1 g2
        refine ⟨a, b, [n1, n2], [m1, m2], rfl, rfl, SqT.of (s _ _ ha), SqT.of (s _ _ hb), ?_⟩
        rw [lex2]
        exact wok w s _ (.bl _)
      · rw [leD_no (.inr h)] at w
        exact (show False from w).elim
    · rw [leD_no (.inl h)] at w
      exact (show False from w).elim
theorem os_eq (hu : X.A.units + 64 < cLine) : OS X E (compareOp .Eq) eqD := by
  intro dx dy
  cases dx <;> cases dy <;> first
    | exact ⟨_, opr_false, fun _ _ _ _ _ _ _ _ w => (show False from w).elim⟩
    | skip
  · refine ⟨_, op_eq, fun G H vx vy Q s bx by' w => ?_⟩
    cases bx.non; cases by'.non
    exact ⟨rfl, wok w s _ (.bl _)⟩
  · rename_i i j
    refine ⟨_, op_eq, fun G H vx vy Q s bx by' w => ?_⟩
    cases bx.bl; cases by'.bl
    refine ⟨rfl, ?_⟩
    rw [dec_bl, Bool.beq_eq_decide_eq]
    exact wok w s _ (.bl _)
  · rename_i i j
    refine ⟨_, op_eq, fun G H vx vy Q s bx by' w => ?_⟩
    cases bx.int; cases by'.int
    refine ⟨rfl, ?_⟩
    rw [dec_int, Bool.beq_eq_decide_eq]
    exact wok w s _ (.bl _)
  · rename_i i j
    refine ⟨_, op_eq, fun G H vx vy Q s bx by' w => ?_⟩
    cases bx.str; cases by'.str
    refine ⟨rfl, ?_⟩
    rw [dec_str, Bool.beq_eq_decide_eq]
    exact wok w s _ (.bl _)
  · rename_i i j
    refine ⟨_, op_eqD hu, fun G H vx vy Q s bx by' w => ?_⟩
    unfold eqD eqB at w
    by_cases h : (okL i && okL j) = true
    · dsimp only at w
      rw [if_pos h] at w
      rw [Bool.and_eq_true] at h
      have p1 := okL_lst h.1
      have p2 := okL_lst h.2
      refine ⟨_, _, ok_dp (Same.refl H) p1 (bx.full s), ok_dp (Same.refl H) p2 (by'.full s), ok_shaped p1, ok_shaped p2, ?_⟩
      exact wok w s _ (.bl _)
    · dsimp only at w
      rw [if_neg h] at w
      exact (show False from w).elim
  · rename_i i j
    refine ⟨_, op_eqD hu, fun G H vx vy Q s bx by' w => ?_⟩
    unfold eqD eqB at w
    by_cases h : (okL i && okL j) = true
    · dsimp only at w
      rw [if_pos h] at w
      rw [Bool.and_eq_true] at h
      have p1 := okL_tup h.1
      have p2 := okL_tup h.2
      refine ⟨_, _, ok_dp (Same.refl H) p1 (bx.full s), ok_dp (Same.refl H) p2 (by'.full s), ok_shaped p1, ok_shaped p2, ?_⟩
      exact wok w s _ (.bl _)
    · dsimp only at w
      rw [if_neg h] at w
      exact (show False from w).elim
theorem os_ne (hu : X.A.units + 64 < cLine) : OS X E (compareOp .NotEq) neD := by
  intro dx dy
  cases dx <;> cases dy <;> first
    | exact ⟨_, opr_false, fun _ _ _ _ _ _ _ _ w => (show False from w).elim⟩
    | skip
  · refine ⟨_, op_ne, fun G H vx vy Q s bx by' w => ?_⟩
    cases bx.non; cases by'.non
    exact ⟨rfl, wok w s _ (.bl _)⟩
  · rename_i i j
    refine ⟨_, op_ne, fun G H vx vy Q s bx by' w => ?_⟩
    cases bx.bl; cases by'.bl
    refine ⟨rfl, ?_⟩
    rw [dec_bl, Bool.beq_eq_decide_eq]
    exact wok w s _ (.bl _)
  · rename_i i j
    refine ⟨_, op_ne, fun G H vx vy Q s bx by' w => ?_⟩
    cases bx.int; cases by'.int
    refine ⟨rfl, ?_⟩
    rw [dec_int, Bool.beq_eq_decide_eq]
    exact wok w s _ (.bl _)
  · rename_i i j
    refine ⟨_, op_ne, fun G H vx vy Q s bx by' w => ?_⟩
    cases bx.str; cases by'.str
    refine ⟨rfl, ?_⟩
    rw [dec_str, Bool.beq_eq_decide_eq]
    exact wok w s _ (.bl _)
  · rename_i i j
    refine ⟨_, op_neD hu, fun G H vx vy Q s bx by' w => ?_⟩
    unfold neD eqB at w
    by_cases h : (okL i && okL j) = true
    · dsimp only at w
      rw [if_pos h] at w
      rw [Bool.and_eq_true] at h
      have p1 := okL_lst h.1
      have p2 := okL_lst h.2
      refine ⟨_, _, ok_dp (Same.refl H) p1 (bx.full s), ok_dp (Same.refl H) p2 (by'.full s), ok_shaped p1, ok_shaped p2, ?_⟩
      exact wok w s _ (.bl _)
    · dsimp only at w
      rw [if_neg h] at w
      exact (show False from w).elim
  · rename_i i j
    refine ⟨_, op_neD hu, fun G H vx vy Q s bx by' w => ?_⟩
    unfold neD eqB at w
    by_cases h : (okL i && okL j) = true
    · dsimp only at w
      rw [if_pos h] at w
      rw [Bool.and_eq_true] at h
      have p1 := okL_tup h.1
      have p2 := okL_tup h.2
      refine ⟨_, _, ok_dp (Same.refl H) p1 (bx.full s), ok_dp (Same.refl H) p2 (by'.full s), ok_shaped p1, ok_shaped p2, ?_⟩
      exact wok w s _ (.bl _)
    · dsimp only at w
      rw [if_neg h] at w
      exact (show False from w).elim
theorem os_isN : OS X E (compareOp .Is) isND := by
  intro dx dy
  cases dx <;> cases dy <;> first
    | exact ⟨_, opr_false, fun _ _ _ _ _ _ _ _ w => (show False from w).elim⟩
    | skip
  · refine ⟨_, op_isN, fun G H vx vy Q s bx by' w => ?_⟩
    cases bx.non; cases by'.non
    exact ⟨rfl, wok w s _ (.bl _)⟩
  · refine ⟨_, op_isN, fun G H vx vy Q s bx by' w => ?_⟩
    cases bx.int; cases by'.non
    exact ⟨rfl, wok w s _ (.bl _)⟩
  · refine ⟨_, op_isN, fun G H vx vy Q s bx by' w => ?_⟩
    obtain ⟨a, xs, rfl, ha, ra⟩ := bx.lst s
    cases by'.non
    exact ⟨rfl, wok w s _ (.bl _)⟩
  · refine ⟨_, op_isN, fun G H vx vy Q s bx by' w => ?_⟩
    obtain ⟨a, xs, rfl, ha, ra⟩ := bx.tup
    cases by'.non
    exact ⟨rfl, wok w s _ (.bl _)⟩

/-! in, not in -/
theorem flat_rp {K : PySem.W.Frag} {G : Hp} {v : V} {d : D} (h : Rp K G v d) (f : flatD d = true) : flatV v = true := by
  cases h <;> first | rfl | cases f
theorem flat_all {K : PySem.W.Frag} {G : Hp} : ∀ {vs : List V} {ds : List D}, RpAll K G vs ds → ds.all flatD = true → vs.all flatV = true
  | _, _, .nil, _ => rfl
  | _, _, .cons h r, f => by
    rw [List.all_cons, Bool.and_eq_true] at f ⊢
    exact ⟨flat_rp h f.1, flat_all r f.2⟩
theorem eqF_rp {K : PySem.W.Frag} {G G' : Hp} {v w : V} {d e : D} (h : Rp K G v d) (h' : Rp K G' w e) (f : flatD d = true) (f' : flatD e = true) : eqV v w = eqF d e := by
  cases h <;> cases h' <;> first | rfl | (cases f; done) | (cases f'; done)
theorem in_any {K : PySem.W.Frag} {G G' : Hp} {w : V} {e : D} (h' : Rp K G' w e) (f' : flatD e = true) : ∀ {vs : List V} {ds : List D}, RpAll K G vs ds → ds.all flatD = true → inV w vs = ds.any fun y => eqF y e
  | _, _, .nil, _ => rfl
  | _, _, .cons h r, f => by
    rw [List.all_cons, Bool.and_eq_true] at f
    show (_ :: _ : List V).any _ = _
    rw [List.any_cons, List.any_cons, eqF_rp h h' f.1 f']
    congr 1
    exact in_any h' f' r f.2
def rDIn : L2.R2 := fun y x H Q => ∃ a o, x = .ref a ∧ DGet H a y o ∧ Q (.bl o.isSome) H
def rDNotIn : L2.R2 := fun y x H Q => ∃ a o, x = .ref a ∧ DGet H a y o ∧ Q (.bl (!o.isSome)) H
theorem op_din (hu : X.A.units + 1 < cLine) : OpR X (compareOp .In) rDIn := by
  intro pins s σ H x y v u Q I rx ry h
  obtain ⟨a, o, rfl, g, q⟩ := h
  cases ry
  exact d_in hu I g rx fun s' I' => ⟨.bl _, H, I', rfl, q⟩
theorem op_dnotin (hu : X.A.units + 1 < cLine) : OpR X (compareOp .NotIn) rDNotIn := by
  intro pins s σ H x y v u Q I rx ry h
  obtain ⟨a, o, rfl, g, q⟩ := h
  cases ry
  exact d_notIn hu I g rx fun s' I' => ⟨.bl _, H, I', rfl, q⟩
theorem valV_set {κ : Type} [DecidableEq κ] (k : κ) : ∀ ks : List κ, (valV (ks.map fun x => (x, V.bl true)) k).isSome = ks.any fun x => decide (x = k)
  | [] => by simp [valV]
  | a :: r => by
    by_cases e : a = k
    · rw [List.map_cons, valV_pos e, List.any_cons, decide_eq_true e]
      rfl
    · rw [List.map_cons, valV_neg e, valV_set k r, List.any_cons, decide_eq_false e, Bool.false_or]
theorem kt_of {κ μ : Type} (f : κ → μ) (ks : List κ) : (ks.map fun k => (f k, V.bl true)) = ((ks.map f).map fun x => (x, V.bl true)) := by
  rw [List.map_map]; rfl
theorem mem_inl (i : Int) (ks : List Int) : ((ks.map fun k => (Sum.inl k : Key)).any fun x => decide (x = Sum.inl i)) = decide (i ∈ ks) := by
  induction ks with
  | nil => simp
  | cons a r ih =>
    rw [List.map_cons, List.any_cons, ih, key_ll]
    by_cases e : a = i
    · subst e; simp
    · have : ¬ i = a := fun z => e z.symm
      simp [e, this]
theorem inl_inj : ∀ {a b : List Int}, a.map (fun k => (Sum.inl k : Key)) = b.map (fun k => (Sum.inl k : Key)) → a = b
  | [], [], _ => rfl
  | [], _ :: _, h => by cases h
  | _ :: _, [], h => by cases h
  | x :: a, y :: b, h => by
    rw [List.map_cons, List.map_cons] at h
    have h1 := (List.cons.inj h).1
    cases h1
    rw [inl_inj (List.cons.inj h).2]
theorem mem_inlT (t : List Int) (ks : List (List Int)) : ((ks.map fun t => t.map fun k => (Sum.inl k : Key)).any fun x => decide (x = t.map fun k => (Sum.inl k : Key))) = decide (t ∈ ks) := by
  induction ks with
  | nil => simp
  | cons a r ih =>
    rw [List.map_cons, List.any_cons, ih]
    by_cases e : a = t
    · subst e; simp
    · have h1 : ¬ (a.map fun k => (Sum.inl k : Key)) = t.map fun k => (Sum.inl k : Key) := fun z => e (inl_inj z)
      have : ¬ t = a := fun z => e z.symm
      simp [h1, this]
theorem kV_map (ns : List Int) : (ns.map fun k => (Sum.inl k : Key)).map kV = ns.map V.int := by
  rw [List.map_map]; rfl
theorem os_in (hu : X.A.units + 65 < cLine) : OS X E (compareOp .In) inD := by
  have hu1 : X.A.units + 1 < cLine := by omega
  intro dx dy
  have none_case : inB dx dy = none → ∃ r : L2.R2, OpR X (compareOp .In) r ∧ ∀ (G H : Hp) (vx vy : V) (Q : VK), Same G H → Bp X.K G H vx dx → Bp X.K G H vy dy →
      Wish X.mg E G H (fun d G' H' => ∀ v, Rp X.K G' v d → Q v H') (inD dx dy) → r vx vy H Q := fun e => ⟨_, opr_false, fun _ _ _ _ _ _ _ _ w => by
    unfold inD at w
    rw [e] at w
    exact w⟩
  cases dy with
  | lst ds =>
    by_cases h1 : (flatD dx && ds.all flatD) = true
    · refine ⟨_, op_in_seq, fun G H vx vy Q s bx by' w => ?_⟩
      unfold inD inB at w
      dsimp only at w
      rw [if_pos h1] at w
      rw [Bool.and_eq_true] at h1
      obtain ⟨a, xs, rfl, ha, ra⟩ := by'.lst s
      have rx := bx.full s
      refine ⟨a, xs, rfl, .inl (SqL.of ha), flat_rp rx h1.1, flat_all ra h1.2, ?_⟩
      show Q (.bl (inV vx xs)) H
      rw [in_any rx h1.1 ra h1.2]
      exact wok w s _ (.bl _)
    · by_cases h2 : (okD dx && okL ds) = true
      · refine ⟨_, op_inD hu, fun G H vx vy Q s bx by' w => ?_⟩
        unfold inD inB at w
        dsimp only at w
        rw [if_neg h1, if_pos h2] at w
        rw [Bool.and_eq_true] at h2
        have p2 := okL_lst h2.2
        have q2 := ok_dp (Same.refl H) p2 (by'.full s)
        have q3 := ok_shaped p2
        simp only [D.py] at q2 q3
        exact ⟨_, _, ok_dp (Same.refl H) h2.1 (bx.full s), q2, ok_shaped h2.1, q3, wok w s _ (.bl _)⟩
      · exact none_case (by unfold inB; dsimp only; rw [if_neg h1, if_neg h2])
  | tup ds =>
    by_cases h1 : (flatD dx && ds.all flatD) = true
    · refine ⟨_, op_in_seq, fun G H vx vy Q s bx by' w => ?_⟩
      unfold inD inB at w
      dsimp only at w
      rw [if_pos h1] at w
      rw [Bool.and_eq_true] at h1
      obtain ⟨a, xs, rfl, ha, ra⟩ := by'.tup
      have rx := bx.full s
      refine ⟨a, xs, rfl, .inr (SqT.of (s _ _ ha)), flat_rp rx h1.1, flat_all ra h1.2, ?_⟩
      show Q (.bl (inV vx xs)) H
      rw [in_any rx h1.1 ra h1.2]
      exact wok w s _ (.bl _)
    · exact none_case (by unfold inB; dsimp only; rw [if_neg h1])
  | dct ks =>
    cases dx with
    | int i =>
      refine ⟨_, op_din hu1, fun G H vx vy Q s bx by' w => ?_⟩
      obtain ⟨a, rfl, ha⟩ := by'.dct s
      cases bx.int
      refine ⟨a, _, rfl, DGet.k (k := Sum.inl i) ha, ?_⟩
      rw [kt_of, valV_set, mem_inl]
      exact wok w s _ (.bl _)
    | _ => exact none_case rfl
  | dctT ks =>
    cases dx with
    | tup xs =>
      cases e : toInts xs with
      | none => exact none_case (by unfold inB; dsimp only; rw [e]; rfl)
      | some ns =>
        refine ⟨_, op_din hu1, fun G H vx vy Q s bx by' w => ?_⟩
        obtain ⟨a, rfl, ha⟩ := by'.dctT s
        obtain ⟨b, vs, rfl, hb, rb⟩ := bx.tup
        have f1 := toInts_eq e
        subst f1
        have g1 := rb.ints
        subst g1
        refine ⟨a, _, rfl, DGet.t (k := ns.map fun k => (Sum.inl k : Key)) ha (by rw [kV_map]; exact s _ _ hb), ?_⟩
        rw [kt_of, valV_set, mem_inlT]
        unfold inD inB at w
        dsimp only at w
        rw [e] at w
        exact wok w s _ (.bl _)
    | _ => exact none_case rfl
  | _ => exact none_case rfl
theorem os_nin (hu : X.A.units + 65 < cLine) : OS X E (compareOp .NotIn) ninD := by
  have hu1 : X.A.units + 1 < cLine := by omega
  intro dx dy
  have none_case : inB dx dy = none → ∃ r : L2.R2, OpR X (compareOp .NotIn) r ∧ ∀ (G H : Hp) (vx vy : V) (Q : VK), Same G H → Bp X.K G H vx dx → Bp X.K G H vy dy →
      Wish X.mg E G H (fun d G' H' => ∀ v, Rp X.K G' v d → Q v H') (ninD dx dy) → r vx vy H Q := fun e => ⟨_, opr_false, fun _ _ _ _ _ _ _ _ w => by
    unfold ninD at w
    rw [e] at w
    exact w⟩
  cases dy with
  | lst ds =>
    by_cases h1 : (flatD dx && ds.all flatD) = true
    · refine ⟨_, op_notIn_seq, fun G H vx vy Q s bx by' w => ?_⟩
      unfold ninD inB at w
      dsimp only at w
      rw [if_pos h1] at w
      rw [Bool.and_eq_true] at h1
      obtain ⟨a, xs, rfl, ha, ra⟩ := by'.lst s
      have rx := bx.full s
      refine ⟨a, xs, rfl, .inl (SqL.of ha), flat_rp rx h1.1, flat_all ra h1.2, ?_⟩
      show Q (.bl (!inV vx xs)) H
      rw [in_any rx h1.1 ra h1.2]
      exact wok w s _ (.bl _)
    · by_cases h2 : (okD dx && okL ds) = true
      · refine ⟨_, op_notInD hu, fun G H vx vy Q s bx by' w => ?_⟩
        unfold ninD inB at w
        dsimp only at w
        rw [if_neg h1, if_pos h2] at w
        rw [Bool.and_eq_true] at h2
        have p2 := okL_lst h2.2
        have q2 := ok_dp (Same.refl H) p2 (by'.full s)
        have q3 := ok_shaped p2
        simp only [D.py] at q2 q3
        exact ⟨_, _, ok_dp (Same.refl H) h2.1 (bx.full s), q2, ok_shaped h2.1, q3, wok w s _ (.bl _)⟩
      · exact none_case (by unfold inB; dsimp only; rw [if_neg h1, if_neg h2])
  | tup ds =>
    by_cases h1 : (flatD dx && ds.all flatD) = true
    · refine ⟨_, op_notIn_seq, fun G H vx vy Q s bx by' w => ?_⟩
      unfold ninD inB at w
      dsimp only at w
      rw [if_pos h1] at w
      rw [Bool.and_eq_true] at h1
      obtain ⟨a, xs, rfl, ha, ra⟩ := by'.tup
      have rx := bx.full s
      refine ⟨a, xs, rfl, .inr (SqT.of (s _ _ ha)), flat_rp rx h1.1, flat_all ra h1.2, ?_⟩
      show Q (.bl (!inV vx xs)) H
      rw [in_any rx h1.1 ra h1.2]
      exact wok w s _ (.bl _)
    · exact none_case (by unfold inB; dsimp only; rw [if_neg h1])
  | dct ks =>
    cases dx with
    | int i =>
      refine ⟨_, op_dnotin hu1, fun G H vx vy Q s bx by' w => ?_⟩
      obtain ⟨a, rfl, ha⟩ := by'.dct s
      cases bx.int
      refine ⟨a, _, rfl, DGet.k (k := Sum.inl i) ha, ?_⟩
      rw [kt_of, valV_set, mem_inl]
      exact wok w s _ (.bl _)
    | _ => exact none_case rfl
  | dctT ks =>
    cases dx with
    | tup xs =>
      cases e : toInts xs with
      | none => exact none_case (by unfold inB; dsimp only; rw [e]; rfl)
      | some ns =>
        refine ⟨_, op_dnotin hu1, fun G H vx vy Q s bx by' w => ?_⟩
        obtain ⟨a, rfl, ha⟩ := by'.dctT s
        obtain ⟨b, vs, rfl, hb, rb⟩ := bx.tup
        have f1 := toInts_eq e
        subst f1
        have g1 := rb.ints
        subst g1
        refine ⟨a, _, rfl, DGet.t (k := ns.map fun k => (Sum.inl k : Key)) ha (by rw [kV_map]; exact s _ _ hb), ?_⟩
        rw [kt_of, valV_set, mem_inlT]
        unfold ninD inB at w
        dsimp only at w
        rw [e] at w
        exact wok w s _ (.bl _)
    | _ => exact none_case rfl
  | _ => exact none_case rfl
end
end Cn

namespace Cn
open PySem PySem.Spec PyProof.Rows L2

/-! ### expressions, as functions of the slots -/
def eV (i : Nat) : EF := fun env => match env[i]? with
  | some (.val d) => .ok d
  | _ => .stuck
def eO (i : Nat) : EF := fun env => match env[i]? with
  | some (.val d) => .ok d
  | some (.own d) => .ok d
  | _ => .stuck
def eC (d : D) : EF := fun _ => .ok d
def eOp (o : D → D → R D) (f g : EF) : EF := fun env => (f env).bind fun x => (g env).bind fun y => o x y
def eUn (o : D → R D) (f : EF) : EF := fun env => (f env).bind o
def eAnd (f g : EF) : EF := fun env => (f env).bind fun x => match x with
  | .bl true => g env
  | .bl false => .ok (.bl false)
  | _ => .stuck
def eOr (f g : EF) : EF := fun env => (f env).bind fun x => match x with
  | .bl false => g env
  | .bl true => .ok (.bl true)
  | _ => .stuck
def notD : D → R D
  | .bl b => .ok (.bl (!b))
  | _ => .stuck
def negD : D → R D
  | .int i => .ok (.int (-i))
  | _ => .stuck
def eChain (o o' : D → D → R D) (f g h : EF) : EF := fun env => (f env).bind fun x => (g env).bind fun y => (o x y).bind fun z => match z with
  | .bl true => (h env).bind fun w => o' y w
  | .bl false => .ok (.bl false)
  | _ => .stuck
def aNil : AF := fun _ => .ok []
def aCons (f : EF) (g : AF) : AF := fun env => (f env).bind fun x => (g env).bind fun xs => .ok (x :: xs)
def eLst (f : AF) : EF := fun env => (f env).bind fun ds => .ok (.lst ds)
def eTup (f : AF) : EF := fun env => (f env).bind fun ds => .ok (.tup ds)
def eCall (fn : List D → R D) (f : AF) : EF := fun env => (f env).bind fn

section
variable {X : Cx} {E : XK} {e a b c : Expr} {f g h : EF} {pos : Pos}
theorem se_var (i : Nat) {x : Str} {p : Pos} (hv : PE X (.Name x p) (tVar i)) : SE X E (.Name x p) (eV i) := by
  intro G0 H0 env σ G H Q r w
  unfold eV at w
  split at w
  · rename_i d hd
    obtain ⟨v, h1, h2⟩ := r.val i d hd
    exact ⟨_, hv, v, h1, w G H (Ext.refl r.sub) v h2⟩
  · exact (show False from w).elim
theorem sb_own (i : Nat) {x : Str} {p : Pos} (hv : PE X (.Name x p) (tVar i)) : SB X E (.Name x p) (eO i) := by
  intro G0 H0 env σ G H Q r w
  unfold eO at w
  split at w
  · rename_i d hd
    obtain ⟨v, h1, h2⟩ := r.val i d hd
    exact ⟨_, hv, v, h1, w G H (Ext.refl r.sub) v (.inl h2)⟩
  · rename_i d hd
    obtain ⟨p, o, h1, h2, h3, h4, h5⟩ := r.own i d hd
    exact ⟨_, hv, .ref p, h1, w G H (Ext.refl r.sub) _ (.inr ⟨p, o, rfl, h3, h2, h5⟩)⟩
  · exact (show False from w).elim
theorem se_c {v : V} {d : D} (hv : PE X e (tC v)) (hr : ∀ G, Rp X.K G v d) : SE X E e (eC d) := by
  intro G0 H0 env σ G H Q r w
  exact ⟨_, hv, w G H (Ext.refl r.sub) v (hr G)⟩
theorem se_int {i : Int} {j p} : SE X E (.Constant (.int i) j p) (eC (.int i)) := se_c pe_int fun _ => .int i
theorem se_bl {i : Bool} {j p} : SE X E (.Constant (.bool i) j p) (eC (.bl i)) := se_c pe_bl fun _ => .bl i
theorem se_str {i : Str} {j p} : SE X E (.Constant (.str i) j p) (eC (.str i)) := se_c pe_str fun _ => .str i
theorem se_non {j p} : SE X E (.Constant .none j p) (eC .non) := se_c pe_non fun _ => .non
theorem se_globI {x : Str} {i : Int} {p : Pos} (hg : Gl X x) (hm : ∃ t, X.mg x = some (.int i t)) (hd : (x == ("__debug__" : Str)) = false := by decide) : SE X E (.Name x p) (eC (.int i)) := by
  obtain ⟨t, hm⟩ := hm
  exact se_c (v := V.int i) (pe_glob hg hm ⟨t, rfl⟩ hd) fun _ => .int i

/-- both, then the operation -/
theorem bin_run {P : D → D → Hp → Hp → V → V → Prop} {G0 H0 : Hp} {env : En} {σ : L2.St} {G H : Hp} {R2' : V → V → Hp → Prop} (ha : SB X E a f) (hb : SB X E b g) (r : Rep X.K G0 H0 env σ G H)
    (w : Wish X.mg E G H (fun dx G1 H1 => Wish X.mg E G1 H1 (fun dy G2 H2 => ∀ vx vy, Bp X.K G2 H2 vx dx → Bp X.K G2 H2 vy dy → R2' vx vy H2) (g env)) (f env)) :
    Re X a σ H (fun x H1 => Re X b σ H1 fun y H2 => R2' x y H2) := by
  refine ha G0 H0 env σ G H _ r (w.imp fun dx G1 H1 e1 q x bx => ?_)
  refine hb G0 H0 env σ G1 H1 _ (r.grow e1) (q.imp fun dy G2 H2 e2 q2 y by' => ?_)
  exact q2 x y (bx.ext e1.sub e2) by'
theorem os_run {fo : Value → Value → Sem Value} {o : D → D → R D} {G0 H0 : Hp} {env : En} {σ : L2.St} {G H : Hp} {Q : VK} (ho : OS X E fo o) (ha : SB X E a f) (hb : SB X E b g) (r : Rep X.K G0 H0 env σ G H)
    (w : Wish X.mg E G H (fun d G' H' => ∀ v, Rp X.K G' v d → Q v H') (eOp o f g env)) : ∃ r2 : L2.R2, OpR X fo r2 ∧ tOp r2 (Re X a) (Re X b) σ H Q := by
  unfold eOp at w
  have w1 := Wish.bind w
  cases hf : f env with
  | stuck => rw [hf] at w1; exact (show False from w1).elim
  | ex c' =>
    refine ⟨_, opr_false, ?_⟩
    refine bin_run (P := fun _ _ _ _ _ _ => True) ha hb r ?_
    rw [hf] at w1 ⊢
    exact w1
  | ok dx =>
    cases hg : g env with
    | stuck =>
      rw [hf] at w1
      have w2 := w1 G H (Ext.refl r.sub)
      have w3 := Wish.bind w2
      rw [hg] at w3
      exact (show False from w3).elim
    | ex c' =>
      refine ⟨_, opr_false, ?_⟩
      refine bin_run (P := fun _ _ _ _ _ _ => True) ha hb r ?_
      rw [hf] at w1 ⊢
      intro G1 H1 e1
      have w3 := Wish.bind (w1 G1 H1 e1)
      rw [hg] at w3 ⊢
      exact w3
    | ok dy =>
      obtain ⟨r2, h1, h2⟩ := ho dx dy
      refine ⟨r2, h1, ?_⟩
      refine bin_run (P := fun _ _ _ _ _ _ => True) ha hb r ?_
      rw [hf] at w1 ⊢
      intro G1 H1 e1
      have w3 := Wish.bind (w1 G1 H1 e1)
      rw [hg] at w3 ⊢
      intro G2 H2 e2 vx vy bx by'
      exact h2 G2 H2 vx vy Q e2.sub bx by' (w3 G2 H2 e2)
theorem se_bin {op : Operator} {o : D → D → R D} (ho : OS X E (binaryOp op) o) (ha : SB X E a f) (hb : SB X E b g) : SE X E (.BinOp a op b pos) (eOp o f g) := by
  intro G0 H0 env σ G H Q r w
  obtain ⟨r2, h1, h2⟩ := os_run ho ha hb r w
  exact ⟨_, pe_op h1 re_pe re_pe, h2⟩
theorem se_cmp {op : CmpOp} {o : D → D → R D} (ho : OS X E (compareOp op) o) (ha : SB X E a f) (hb : SB X E b g) (hm : behindInMarks op b = false := by rfl) : SE X E (.Compare a [op] [b] pos) (eOp o f g) := by
  intro G0 H0 env σ G H Q r w
  obtain ⟨r2, h1, h2⟩ := os_run ho ha hb r w
  exact ⟨_, pe_cmpR h1 re_pe re_pe hm, h2⟩
theorem wish_bl {G H : Hp} {Q : Bool → Hp → Prop} {r : R D} (w : Wish X.mg E G H (fun d _ H' => ∃ b, d = .bl b ∧ Q b H') r) : Wish X.mg E G H (fun d G' H' => ∀ v, Rp X.K G' v d → ∃ k, v = .bl k ∧ Q k H') r :=
  w.imp fun d G' H' _ ⟨b, e, q⟩ v hv => by
    subst e
    cases hv
    exact ⟨b, rfl, q⟩
theorem st_cmp {op : CmpOp} {o : D → D → R D} (ho : OS X E (compareOp op) o) (ha : SB X E a f) (hb : SB X E b g) (hm : behindInMarks op b = false := by rfl) : ST X E (.Compare a [op] [b] pos) (eOp o f g) := by
  intro G0 H0 env σ G H Q r w
  obtain ⟨r2, h1, h2⟩ := os_run (Q := fun x H' => ∃ k, x = .bl k ∧ Q k H') ho ha hb r (wish_bl w)
  exact ⟨_, pt_cmpR h1 re_pe re_pe hm, h2⟩
theorem st_val (hv : SE X E e f) (he : ∀ whole, isTrue e X.env whole = (do let v ← whole; standAt e.pos; holding [v] (truthy v)) := by intro _; rfl) : ST X E e f := by
  intro G0 H0 env σ G H Q r w
  obtain ⟨t, h1, h2⟩ := hv G0 H0 env σ G H (fun x H' => ∃ k, x = .bl k ∧ Q k H') r (wish_bl w)
  exact ⟨_, pt_val h1 he, h2⟩

/-- a test whatever its whole is -/
def Rw (X : Cx) (e : Expr) : TT := fun σ H Q => ∃ t : TT, PW X e t ∧ t σ H Q
theorem rw_pw : PW X e (Rw X e) := ⟨fun wh pins s σ H Q I ⟨t, h, q⟩ => h.run wh pins s σ H Q I q⟩
def SW (X : Cx) (E : XK) (e : Expr) (f : EF) : Prop := ∀ (G0 H0 : Hp) (env : En) (σ : L2.St) (G H : Hp) (Q : Bool → Hp → Prop), Rep X.K G0 H0 env σ G H →
  Wish X.mg E G H (fun d _ H' => ∃ b, d = .bl b ∧ Q b H') (f env) → Rw X e σ H Q
theorem st_w (h : SW X E e f) : ST X E e f := fun G0 H0 env σ G H Q r w =>
  let ⟨_, h1, h2⟩ := h G0 H0 env σ G H Q r w
  ⟨_, h1.pt, h2⟩
theorem sw_and1 (ha : ST X E a f) : SW X E (.BoolOp .And [a] pos) f := fun G0 H0 env σ G H Q r w =>
  let ⟨_, h1, h2⟩ := ha G0 H0 env σ G H Q r w
  ⟨_, pw_and1 h1, h2⟩
theorem sw_or1 (ha : ST X E a f) : SW X E (.BoolOp .Or [a] pos) f := fun G0 H0 env σ G H Q r w =>
  let ⟨_, h1, h2⟩ := ha G0 H0 env σ G H Q r w
  ⟨_, pw_or1 h1, h2⟩
variable {rest : List Expr}
theorem sw_and (ha : ST X E a f) (hb : SW X E (.BoolOp .And (b :: rest) pos) g) : SW X E (.BoolOp .And (a :: b :: rest) pos) (eAnd f g) := by
  intro G0 H0 env σ G H Q r w
  refine ⟨_, pw_and rt_pt rw_pw, ?_⟩
  refine ha G0 H0 env σ G H _ r ?_
  refine (Wish.bind w).imp fun d G1 H1 e1 q => ?_
  cases d <;> first | exact (show False from q).elim | skip
  rename_i k
  refine ⟨k, rfl, ?_⟩
  cases k with
  | true => exact hb G0 H0 env σ G1 H1 Q (r.grow e1) q
  | false =>
    obtain ⟨b', e', q'⟩ := q G1 H1 (Ext.refl e1.sub)
    cases e'
    exact q'
theorem sw_or (ha : ST X E a f) (hb : SW X E (.BoolOp .Or (b :: rest) pos) g) : SW X E (.BoolOp .Or (a :: b :: rest) pos) (eOr f g) := by
  intro G0 H0 env σ G H Q r w
  refine ⟨_, pw_or rt_pt rw_pw, ?_⟩
  refine ha G0 H0 env σ G H _ r ?_
  refine (Wish.bind w).imp fun d G1 H1 e1 q => ?_
  cases d <;> first | exact (show False from q).elim | skip
  rename_i k
  refine ⟨k, rfl, ?_⟩
  cases k with
  | false => exact hb G0 H0 env σ G1 H1 Q (r.grow e1) q
  | true =>
    obtain ⟨b', e', q'⟩ := q G1 H1 (Ext.refl e1.sub)
    cases e'
    exact q'
theorem st_not (ha : ST X E a f) : ST X E (.UnaryOp .Not a pos) (eUn notD f) := by
  intro G0 H0 env σ G H Q r w
  refine ⟨_, pt_not rt_pt, ?_⟩
  refine ha G0 H0 env σ G H _ r ?_
  refine (Wish.bind w).imp fun d G1 H1 e1 q => ?_
  cases d <;> first | exact (show False from q).elim | skip
  rename_i k
  obtain ⟨b', e', q'⟩ := q G1 H1 (Ext.refl e1.sub)
  cases e'
  exact ⟨k, rfl, q'⟩
theorem se_not (ha : SE X E a f) : SE X E (.UnaryOp .Not a pos) (eUn notD f) := by
  intro G0 H0 env σ G H Q r w
  refine ⟨_, pe_not re_pe, ?_⟩
  refine ha G0 H0 env σ G H _ r ?_
  refine (Wish.bind w).imp fun d G1 H1 e1 q v hv => ?_
  cases d <;> first | exact (show False from q).elim | skip
  rename_i k
  cases hv
  exact ⟨k, rfl, q G1 H1 (Ext.refl e1.sub) _ (.bl _)⟩
theorem se_neg (ha : SE X E a f) : SE X E (.UnaryOp .USub a pos) (eUn negD f) := by
  intro G0 H0 env σ G H Q r w
  refine ⟨_, pe_un un_neg re_pe, ?_⟩
  refine ha G0 H0 env σ G H _ r ?_
  refine (Wish.bind w).imp fun d G1 H1 e1 q v hv => ?_
  cases d <;> first | exact (show False from q).elim | skip
  rename_i k
  cases hv
  exact ⟨k, rfl, q G1 H1 (Ext.refl e1.sub) _ (.int _)⟩
theorem se_one {op} (ha : SE X E a f) : SE X E (.BoolOp op [a] pos) f := fun G0 H0 env σ G H Q r w =>
  let ⟨_, h1, h2⟩ := ha G0 H0 env σ G H Q r w
  ⟨_, pe_one h1, h2⟩
theorem se_and (ha : SE X E a f) (hb : SE X E (.BoolOp .And (b :: rest) pos) g) : SE X E (.BoolOp .And (a :: b :: rest) pos) (eAnd f g) := by
  intro G0 H0 env σ G H Q r w
  refine ⟨_, pe_and re_pe re_pe, ?_⟩
  refine ha G0 H0 env σ G H _ r ?_
  refine (Wish.bind w).imp fun d G1 H1 e1 q v hv => ?_
  cases d <;> first | exact (show False from q).elim | skip
  rename_i k
  cases hv
  refine ⟨k, rfl, ?_⟩
  cases k with
  | true => exact hb G0 H0 env σ G1 H1 Q (r.grow e1) q
  | false => exact q G1 H1 (Ext.refl e1.sub) _ (.bl _)
theorem se_or (ha : SE X E a f) (hb : SE X E (.BoolOp .Or (b :: rest) pos) g) : SE X E (.BoolOp .Or (a :: b :: rest) pos) (eOr f g) := by
  intro G0 H0 env σ G H Q r w
  refine ⟨_, pe_or re_pe re_pe, ?_⟩
  refine ha G0 H0 env σ G H _ r ?_
  refine (Wish.bind w).imp fun d G1 H1 e1 q v hv => ?_
  cases d <;> first | exact (show False from q).elim | skip
  rename_i k
  cases hv
  refine ⟨k, rfl, ?_⟩
  cases k with
  | false => exact hb G0 H0 env σ G1 H1 Q (r.grow e1) q
  | true => exact q G1 H1 (Ext.refl e1.sub) _ (.bl _)

/-! argument lists, displays -/
def SAn (X : Cx) (E : XK) (es : List Expr) (f : AF) : Prop := ∀ (G0 H0 : Hp) (env : En) (σ : L2.St) (G H : Hp) (Q : List V → Hp → Prop), Rep X.K G0 H0 env σ G H →
  Wish X.mg E G H (fun ds G' H' => ∀ vs, RpAll X.K G' vs ds → vs.length = es.length → Q vs H') (f env) → Ra X es σ H Q
def SAbn (X : Cx) (E : XK) (es : List Expr) (f : AF) : Prop := ∀ (G0 H0 : Hp) (env : En) (σ : L2.St) (G H : Hp) (Q : List V → Hp → Prop), Rep X.K G0 H0 env σ G H →
  Wish X.mg E G H (fun ds G' H' => ∀ vs, BpAll X.K G' H' vs ds → vs.length = es.length → Q vs H') (f env) → Ra X es σ H Q
theorem BpAll.ext {K : PySem.W.Frag} {G H G' H' : Hp} (s : Same G H) (e : Ext G H G' H') : ∀ {vs : List V} {ds : List D}, BpAll K G H vs ds → BpAll K G' H' vs ds
  | _, _, .nil => .nil
  | _, _, .cons h r => .cons (h.ext s e) (BpAll.ext s e r)
theorem sa_nil : SAn X E [] aNil := fun G0 H0 env σ G H Q r w => ⟨_, pa_nil, w G H (Ext.refl r.sub) [] .nil rfl⟩
theorem sa_cons {es : List Expr} {fs : AF} (ha : SE X E a f) (hr : SAn X E es fs) (hs : starEach (a :: es) X.env = (false, eval a X.env) :: starEach es X.env := by rfl) : SAn X E (a :: es) (aCons f fs) := by
  intro G0 H0 env σ G H Q r w
  refine ⟨_, pa_cons re_pe ra_pa hs, ?_⟩
  refine ha G0 H0 env σ G H _ r ((Wish.bind w).imp fun d G1 H1 e1 q v hv => ?_)
  refine hr G0 H0 env σ G1 H1 _ (r.grow e1) ((Wish.bind q).imp fun ds G2 H2 e2 q2 vs hvs hl => ?_)
  exact q2 G2 H2 (Ext.refl e2.sub) (v :: vs) (.cons (hv.mono (e2.same e1.sub)) hvs) (by rw [List.length_cons, List.length_cons, hl])
theorem sab_nil : SAbn X E [] aNil := fun G0 H0 env σ G H Q r w => ⟨_, pa_nil, w G H (Ext.refl r.sub) [] .nil rfl⟩
theorem sab_cons {es : List Expr} {fs : AF} (ha : SB X E a f) (hr : SAbn X E es fs) (hs : starEach (a :: es) X.env = (false, eval a X.env) :: starEach es X.env := by rfl) : SAbn X E (a :: es) (aCons f fs) := by
  intro G0 H0 env σ G H Q r w
  refine ⟨_, pa_cons re_pe ra_pa hs, ?_⟩
  refine ha G0 H0 env σ G H _ r ((Wish.bind w).imp fun d G1 H1 e1 q v hv => ?_)
  refine hr G0 H0 env σ G1 H1 _ (r.grow e1) ((Wish.bind q).imp fun ds G2 H2 e2 q2 vs hvs hl => ?_)
  exact q2 G2 H2 (Ext.refl e2.sub) (v :: vs) (.cons (hv.ext e1.sub e2) hvs) (by rw [List.length_cons, List.length_cons, hl])
theorem own_new {K : PySem.W.Frag} {G H : Hp} {p : Addr} {xs : List V} {ds : List D} (s : Same G H) (hp : H p = none) (r : RpAll K G xs ds) : OwnR K G (.lst xs) (.lst ds) := ⟨xs, rfl, r⟩
theorem small_sz {n : Nat} (h : n ≤ 1000) : n ≤ sizeLine := Nat.le_of_lt (small1000 h)
theorem sf_lst {es : List Expr} {fs : AF} (ha : SAn X E es fs) (hl : es.length ≤ 1000 := by decide) : SF X E (.List es pos) (eLst fs) := by
  intro G0 H0 env σ G H Q r w
  refine ⟨_, pe_lst ra_pa, ?_⟩
  refine ha G0 H0 env σ G H _ r ((Wish.bind w).imp fun ds G1 H1 e1 q vs hvs hn => ⟨small_sz (by omega), fun p hp => ?_⟩)
  have h0 : H p = none := e1.hh.free hp
  exact q G1 (upd H1 p (.lst vs)) (Ext.newOwn e1.sub hp) p (.lst vs) h0 upd_same (e1.sub.free hp) ⟨vs, rfl, hvs⟩
theorem se_tup {es : List Expr} {fs : AF} {x1} (ha : SAn X E es fs) (hl : es.length ≤ 1000 := by decide) : SE X E (.Tuple es x1 pos) (eTup fs) := by
  intro G0 H0 env σ G H Q r w
  refine ⟨_, pe_tup ra_pa, ?_⟩
  refine ha G0 H0 env σ G H _ r ((Wish.bind w).imp fun ds G1 H1 e1 q vs hvs hn => ⟨small_sz (by omega), fun p hp => ?_⟩)
  have sg : Same G1 (upd G1 p (.tup vs)) := Same.upd (e1.sub.free hp)
  exact q _ _ (Ext.new e1.sub hp) (.ref p) (.tup upd_same (hvs.mono sg))
end
end Cn

namespace Cn
open PySem PySem.Spec PyProof.Rows L2

/-! ### index -/
def ixD : D → D → R D
  | .lst ds, .int i => match atI ds i with
    | some d => .ok d
    | none => .stuck
  | .tup ds, .int i => match atI ds i with
    | some d => .ok d
    | none => .stuck
  | .scr ns, .int i => match atI ns i with
    | some n => .ok (.int n)
    | none => .stuck
  | .str z, .int i => if z.length ≤ LIM then (match atI z.cps.toList i with
    | some c => .ok (.str ⟨#[c]⟩)
    | none => .stuck) else .stuck
  | _, _ => .stuck
def IS (X : Cx) (E : XK) (o : D → D → R D) : Prop :=
  ∀ dx dy, ∃ r : L2.R2, IxR X r ∧ ∀ (G H : Hp) (vx vy : V) (Q : VK), Same G H → Bp X.K G H vx dx → Bp X.K G H vy dy →
    Wish X.mg E G H (fun d G' H' => ∀ v, Rp X.K G' v d → Q v H') (o dx dy) → r vx vy H Q
section
variable {X : Cx} {E : XK} {e a b c : Expr} {f g h : EF} {pos : Pos}
theorem ixr_false : IxR X (fun _ _ _ _ => False) := fun _ _ _ _ _ _ _ _ _ _ _ _ _ _ h _ => h.elim
theorem atI_rp {K : PySem.W.Frag} {G : Hp} {xs : List V} {ds : List D} {i : Int} {d : D} (r : RpAll K G xs ds) (h : atI ds i = some d) : ∃ v, atI xs i = some v ∧ Rp K G v d := by
  unfold atI at h ⊢
  rw [r.length]
  cases e : ixN ds.length i with
  | none => rw [e] at h; cases h
  | some j =>
    rw [e] at h
    obtain ⟨v, h1, h2⟩ := r.get (i := j) (d := d) h
    exact ⟨v, h1, h2⟩
theorem is_ix : IS X E ixD := by
  intro dx dy
  cases dx <;> cases dy <;> first
    | exact ⟨_, ixr_false, fun _ _ _ _ _ _ _ _ w => (show False from w).elim⟩
    | skip
  · rename_i z i
    refine ⟨_, ix_str, fun G H vx vy Q s bx by' w => ?_⟩
    cases bx.str; cases by'.int
    by_cases hz : z.length ≤ LIM
    · cases e : atI z.cps.toList i with
      | none => simp only [ixD, e, if_pos hz] at w; exact (show False from w).elim
      | some c =>
        simp only [ixD, e, if_pos hz] at w
        exact ⟨z, i, c, rfl, rfl, lim_le hz, e, wok w s _ (.str _)⟩
    · simp only [ixD, if_neg hz] at w
      exact (show False from w).elim
  · rename_i ds i
    refine ⟨_, ix_list, fun G H vx vy Q s bx by' w => ?_⟩
    cases by'.int
    obtain ⟨p, xs, rfl, hp, hr⟩ := bx.lst s
    cases e : atI ds i with
    | none => simp only [ixD, e] at w; exact (show False from w).elim
    | some d =>
      simp only [ixD, e] at w
      obtain ⟨v, h1, h2⟩ := atI_rp hr e
      exact ⟨p, xs, i, v, rfl, rfl, SqL.of hp, h1, wok w s v h2⟩
  · rename_i ds i
    refine ⟨_, ix_tup, fun G H vx vy Q s bx by' w => ?_⟩
    cases by'.int
    obtain ⟨p, xs, rfl, hp, hr⟩ := bx.tup
    cases e : atI ds i with
    | none => simp only [ixD, e] at w; exact (show False from w).elim
    | some d =>
      simp only [ixD, e] at w
      obtain ⟨v, h1, h2⟩ := atI_rp hr e
      exact ⟨p, xs, i, v, rfl, rfl, SqT.of (s _ _ hp), h1, wok w s v h2⟩
  · rename_i ns i
    refine ⟨_, ix_list, fun G H vx vy Q s bx by' w => ?_⟩
    cases by'.int
    obtain ⟨p, rfl, hp⟩ := bx.scr
    cases e : atI ns i with
    | none => simp only [ixD, e] at w; exact (show False from w).elim
    | some d =>
      simp only [ixD, e] at w
      refine ⟨p, ns.map V.int, i, .int d, rfl, rfl, s.seq hp, ?_, wok w s _ (.int _)⟩
      unfold atI at e ⊢
      rw [List.length_map]
      cases q : ixN ns.length i with
      | none => rw [q] at e; cases e
      | some j =>
        rw [q] at e
        show (ns.map V.int)[j]? = _
        rw [List.getElem?_map, show ns[j]? = some d from e]
        rfl
theorem is_run {o : D → D → R D} {G0 H0 : Hp} {env : En} {σ : L2.St} {G H : Hp} {Q : VK} (ho : IS X E o) (ha : SB X E a f) (hb : SB X E b g) (r : Rep X.K G0 H0 env σ G H)
    (w : Wish X.mg E G H (fun d G' H' => ∀ v, Rp X.K G' v d → Q v H') (eOp o f g env)) : ∃ r2 : L2.R2, IxR X r2 ∧ tOp r2 (Re X a) (Re X b) σ H Q := by
  unfold eOp at w
  have w1 := Wish.bind w
  cases hf : f env with
  | stuck => rw [hf] at w1; exact (show False from w1).elim
  | ex c' =>
    refine ⟨_, ixr_false, ?_⟩
    refine bin_run (P := fun _ _ _ _ _ _ => True) ha hb r ?_
    rw [hf] at w1 ⊢
    exact w1
  | ok dx =>
    cases hg : g env with
    | stuck =>
      rw [hf] at w1
      have w3 := Wish.bind (w1 G H (Ext.refl r.sub))
      rw [hg] at w3
      exact (show False from w3).elim
    | ex c' =>
      refine ⟨_, ixr_false, ?_⟩
      refine bin_run (P := fun _ _ _ _ _ _ => True) ha hb r ?_
      rw [hf] at w1 ⊢
      intro G1 H1 e1
      have w3 := Wish.bind (w1 G1 H1 e1)
      rw [hg] at w3 ⊢
      exact w3
    | ok dy =>
      obtain ⟨r2, h1, h2⟩ := ho dx dy
      refine ⟨r2, h1, ?_⟩
      refine bin_run (P := fun _ _ _ _ _ _ => True) ha hb r ?_
      rw [hf] at w1 ⊢
      intro G1 H1 e1
      have w3 := Wish.bind (w1 G1 H1 e1)
      rw [hg] at w3 ⊢
      intro G2 H2 e2 vx vy bx by'
      exact h2 G2 H2 vx vy Q e2.sub bx by' (w3 G2 H2 e2)
theorem se_ix (ha : SB X E a f) (hb : SB X E b g) (hs : PlainIx b := by exact fun _ _ => rfl) : SE X E (.Subscript a b pos) (eOp ixD f g) := by
  intro G0 H0 env σ G H Q r w
  obtain ⟨r2, h1, h2⟩ := is_run is_ix ha hb r w
  exact ⟨_, pe_ix h1 re_pe re_pe hs, h2⟩

/-! ### slices -/
abbrev OF := En → R (Option Int)
def oNone : OF := fun _ => .ok none
def oSome (f : EF) : OF := fun env => (f env).bind fun d => match d with
  | .int i => .ok (some i)
  | _ => .stuck
def Ro (X : Cx) (e : Option Expr) : TO := fun σ H Q => ∃ t : TO, PO X e t ∧ t σ H Q
theorem ro_po {e : Option Expr} : PO X e (Ro X e) := ⟨fun pins s σ H Q I ⟨t, h, q⟩ => h.run pins s σ H Q I q⟩
def SO (X : Cx) (E : XK) (e : Option Expr) (f : OF) : Prop := ∀ (G0 H0 : Hp) (env : En) (σ : L2.St) (G H : Hp) (Q : Option Int → Hp → Prop), Rep X.K G0 H0 env σ G H →
  Wish X.mg E G H (fun o _ H' => Q o H') (f env) → Ro X e σ H Q
theorem so_none : SO X E none oNone := fun G0 H0 env σ G H Q r w => ⟨_, po_none, w G H (Ext.refl r.sub)⟩
theorem so_some (ha : SE X E a f) : SO X E (some a) (oSome f) := by
  intro G0 H0 env σ G H Q r w
  refine ⟨_, po_some re_pe, ?_⟩
  refine ha G0 H0 env σ G H _ r ((Wish.bind w).imp fun d G1 H1 e1 q v hv => ?_)
  cases d <;> first | exact (show False from q).elim | skip
  rename_i i
  cases hv
  exact ⟨i, rfl, q G1 H1 (Ext.refl e1.sub)⟩
def cutL {α : Type} (xs : List α) (lo hi : Option Int) : List α := (xs.drop (HT.sIx xs.length 0 lo)).take (HT.sIx xs.length xs.length hi - HT.sIx xs.length 0 lo)
def eSl (f : EF) (lo hi : OF) : EF := fun env => (f env).bind fun x => (lo env).bind fun l => (hi env).bind fun u => match x with
  | .lst ds => .ok (.lst (cutL ds l u))
  | _ => .stuck
def eSlS (f : EF) (lo hi : OF) : EF := fun env => (f env).bind fun x => (lo env).bind fun l => (hi env).bind fun u => match x with
  | .str z => if z.length ≤ LIM then .ok (.str (cutS z l u)) else .stuck
  | _ => .stuck
theorem cut_rp {K : PySem.W.Frag} {G : Hp} {xs : List V} {ds : List D} (l u : Option Int) (r : RpAll K G xs ds) : RpAll K G (cutV xs l u) (cutL ds l u) := by
  unfold cutV cutL
  rw [r.length]
  exact (r.drop _).take _
theorem sf_sl {lo hi : Option Expr} {fl fu : OF} {p2 : Pos} (ha : SB X E a f) (hl : SO X E lo fl) (hu : SO X E hi fu) : SF X E (.Subscript a (.Slice lo hi none p2) pos) (eSl f fl fu) := by
  intro G0 H0 env σ G H Q r w
  refine ⟨_, pe_slice sl_list re_pe ro_po ro_po, ?_⟩
  refine ha G0 H0 env σ G H _ r ((Wish.bind w).imp fun x G1 H1 e1 q v hv => ?_)
  refine hl G0 H0 env σ G1 H1 _ (r.grow e1) ((Wish.bind q).imp fun l G2 H2 e2 q2 => ?_)
  refine hu G0 H0 env σ G2 H2 _ ((r.grow e1).grow e2) ((Wish.bind q2).imp fun u G3 H3 e3 q3 => ?_)
  cases x <;> first | exact (show False from q3).elim | skip
  rename_i ds
  have hv3 := (hv.ext e1.sub e2).ext e2.sub e3
  obtain ⟨p, xs, rfl, hp, hr⟩ := hv3.lst e3.sub
  refine ⟨p, xs, rfl, SqL.of hp, fun t ht => ?_⟩
  have h0 : H t = none := ((e1.trans e2).trans e3).hh.free ht
  exact q3 G3 _ (Ext.newOwn e3.sub ht) t _ h0 upd_same (e3.sub.free ht) ⟨_, rfl, cut_rp l u hr⟩
theorem se_slS {lo hi : Option Expr} {fl fu : OF} {p2 : Pos} (ha : SE X E a f) (hl : SO X E lo fl) (hu : SO X E hi fu) : SE X E (.Subscript a (.Slice lo hi none p2) pos) (eSlS f fl fu) := by
  intro G0 H0 env σ G H Q r w
  refine ⟨_, pe_slice sl_str re_pe ro_po ro_po, ?_⟩
  refine ha G0 H0 env σ G H _ r ((Wish.bind w).imp fun x G1 H1 e1 q v hv => ?_)
  refine hl G0 H0 env σ G1 H1 _ (r.grow e1) ((Wish.bind q).imp fun l G2 H2 e2 q2 => ?_)
  refine hu G0 H0 env σ G2 H2 _ ((r.grow e1).grow e2) ((Wish.bind q2).imp fun u G3 H3 e3 q3 => ?_)
  cases x <;> first | exact (show False from q3).elim | skip
  rename_i z
  cases hv
  obtain ⟨hz, q4⟩ := wite (c := z.length ≤ LIM) q3
  exact ⟨z, rfl, lim_le hz, q4 G3 H3 (Ext.refl e3.sub) _ (.str _)⟩

/-! ### a + b of lists as a new one -/
def catD : D → D → R D
  | .lst i, .lst j => if i.length + j.length ≤ LIM then .ok (.lst (i ++ j)) else .stuck
  | _, _ => .stuck
theorem sf_cat (ha : SB X E a f) (hb : SB X E b g) : SF X E (.BinOp a .Add b pos) (eOp catD f g) := by
  intro G0 H0 env σ G H Q r w
  refine ⟨_, pe_op op_cat re_pe re_pe, ?_⟩
  refine bin_run (P := fun _ _ _ _ _ _ => True) ha hb r ?_
  refine (Wish.bind w).imp fun dx G1 H1 e1 q => ?_
  refine (Wish.bind q).imp fun dy G2 H2 e2 q2 vx vy bx by' => ?_
  cases dx <;> first | exact (show False from q2).elim | skip
  cases dy <;> first | exact (show False from q2).elim | skip
  rename_i i j
  obtain ⟨p, xs, rfl, hp, hr⟩ := bx.lst e2.sub
  obtain ⟨p', ys, rfl, hp', hr'⟩ := by'.lst e2.sub
  obtain ⟨hl, q3⟩ := wite (c := i.length + j.length ≤ LIM) q2
  refine ⟨p, p', xs, ys, rfl, rfl, hp, hp', lim_le (by rw [hr.length, hr'.length]; exact hl), fun t ht => ?_⟩
  exact q3 G2 _ (Ext.newOwn e2.sub ht) t _ ((e1.trans e2).hh.free ht) upd_same (e2.sub.free ht) ⟨_, rfl, hr.append hr'⟩

/-! ### dicts -/
theorem sf_dict : SF X E (.Dict [] [] pos) (eC (.dct [])) := fun G0 H0 env σ G H Q r w => ⟨_, pe_dnewK, fun p hp =>
  w G _ (Ext.newOwn r.sub hp) p _ hp upd_same (r.sub.free hp) rfl⟩
theorem sf_dictT : SF X E (.Dict [] [] pos) (eC (.dctT [])) := fun G0 H0 env σ G H Q r w => ⟨_, pe_dnewT, fun p hp =>
  w G _ (Ext.newOwn r.sub hp) p _ hp upd_same (r.sub.free hp) rfl⟩
def eDict1 (f : EF) : EF := fun env => (f env).bind fun d => match d with
  | .int i => .ok (.dct [i])
  | _ => .stuck
theorem sf_dict1 {j : Nat} {p' : Pos} (ha : SE X E a f) : SF X E (.Dict [some a] [.Constant (.bool true) j p'] pos) (eDict1 f) := by
  intro G0 H0 env σ G H Q r w
  refine ⟨_, pe_disp (pps_cons re_pe pe_bl pps_nil) (by rfl) (by rfl) (fun z => by cases z) (by show 1 ≤ 15; decide), fun p hp => ?_⟩
  have e0 : Ext G H G (upd H p (.dK [])) := Ext.newOwn r.sub hp
  have w1 := Wish.bind w
  refine ha G0 H0 env σ G _ _ (r.grow e0) ?_
  cases hf : f env with
  | stuck => rw [hf] at w1; exact w1
  | ex c => rw [hf] at w1; exact fun G' H' C e' hc => w1 G' H' C (e0.trans e') hc
  | ok d =>
    rw [hf] at w1
    cases d <;> first | exact (show False from w1 G H (Ext.refl r.sub)).elim | skip
    rename_i i
    intro G1 H1 e1 v hv
    cases hv
    have hp1 : H1 p = some (.dK []) := e1.hh _ _ upd_same
    have gp1 : G1 p = none := e1.out upd_same (fun _ z => nomatch z) (r.sub.free hp)
    refine ⟨hp1, [((Sum.inl i : Key), V.bl true)], rfl, by show 1 ≤ 15; decide, ?_⟩
    have w2 := w1 G H (Ext.refl r.sub)
    exact w2 G1 _ ⟨fun x u z => by rw [upd_ne (ne_of_none z gp1)]; exact e1.sub x u z, fun x u z => by
      have ne : x ≠ p := ne_of_none z hp
      rw [upd_ne ne]
      exact e1.hh x u (by rw [upd_ne ne]; exact z), fun x hn hx => (e0.trans e1).gg x hn hx, (e0.trans e1).sm⟩ p _ hp upd_same gp1 rfl
end
end Cn

namespace Cn
open PySem PySem.Spec PyProof.Rows L2

/-! ### built-ins of one value -/
def CS (X : Cx) (E : XK) (fv : Value) (o : D → R D) : Prop :=
  ∀ dx, ∃ r : List V → Hp → VK → Prop, CallR X fv r ∧ ∀ (G H : Hp) (vx : V) (Q : VK), Same G H → Bp X.K G H vx dx →
    Wish X.mg E G H (fun d G' H' => ∀ v, Rp X.K G' v d → Q v H') (o dx) → r [vx] H Q
def lenD : D → R D
  | .lst ds => .ok (.int ds.length)
  | .tup ds => .ok (.int ds.length)
  | .scr ns => .ok (.int ns.length)
  | .str z => if z.length ≤ LIM then .ok (.int z.length) else .stuck
  | _ => .stuck
def intD : D → R D
  | .int i => .ok (.int i)
  | .bl k => .ok (.int (if k then 1 else 0))
  | _ => .stuck
def maxI : Int → List Int → Int
  | m, [] => m
  | m, n :: r => maxI (if n > m then n else m) r
def maxD : D → R D
  | .lst ds => match toInts ds with
    | some (n :: r) => .ok (.int (maxI n r))
    | _ => .stuck
  | _ => .stuck
section
variable {X : Cx} {E : XK} {e a b c : Expr} {f g h : EF} {pos : Pos}
theorem callr_false {fv : Value} : CallR X fv (fun _ _ _ => False) := fun _ _ _ _ _ _ _ _ _ h => h.elim
theorem cs_len : CS X E (.builtin "len") lenD := by
  intro dx
  cases dx <;> first
    | exact ⟨_, callr_false, fun _ _ _ _ _ _ w => (show False from w).elim⟩
    | skip
  · rename_i z
    refine ⟨_, call_len_str, fun G H vx Q s bx w => ?_⟩
    cases bx.str
    obtain ⟨hz, w⟩ := wite (c := z.length ≤ LIM) w
    exact ⟨z, rfl, lim_le hz, wok w s _ (.int _)⟩
  · rename_i ds
    refine ⟨_, call_len_seq, fun G H vx Q s bx w => ?_⟩
    obtain ⟨p, xs, rfl, hp, hr⟩ := bx.lst s
    refine ⟨p, xs, rfl, .inl (SqL.of hp), ?_⟩
    rw [hr.length]
    exact wok w s _ (.int _)
  · rename_i ds
    refine ⟨_, call_len_seq, fun G H vx Q s bx w => ?_⟩
    obtain ⟨p, xs, rfl, hp, hr⟩ := bx.tup
    refine ⟨p, xs, rfl, .inr (SqT.of (s _ _ hp)), ?_⟩
    rw [hr.length]
    exact wok w s _ (.int _)
  · rename_i ns
    refine ⟨_, call_len_seq, fun G H vx Q s bx w => ?_⟩
    obtain ⟨p, rfl, hp⟩ := bx.scr
    refine ⟨p, _, rfl, .inl (s.seq hp), ?_⟩
    rw [List.length_map]
    exact wok w s _ (.int _)
theorem cs_int : CS X E (.type "int") intD := by
  intro dx
  cases dx <;> first
    | exact ⟨_, callr_false, fun _ _ _ _ _ _ w => (show False from w).elim⟩
    | skip
  · rename_i k
    refine ⟨_, call_int1, fun G H vx Q s bx w => ?_⟩
    cases bx.bl
    exact .inr ⟨k, rfl, wok w s _ (.int _)⟩
  · rename_i i
    refine ⟨_, call_int1, fun G H vx Q s bx w => ?_⟩
    cases bx.int
    exact .inl ⟨i, rfl, wok w s _ (.int _)⟩
theorem maxI_spec : ∀ (r : List Int) (m : Int), (maxI m r = m ∨ maxI m r ∈ r) ∧ m ≤ maxI m r ∧ ∀ y ∈ r, y ≤ maxI m r
  | [], m => ⟨.inl rfl, Int.le_refl m, fun y hy => by cases hy⟩
  | n :: r, m => by
    have q := maxI_spec r (if n > m then n else m)
    show (maxI (if n > m then n else m) r = m ∨ maxI (if n > m then n else m) r ∈ n :: r) ∧ m ≤ maxI (if n > m then n else m) r ∧ ∀ y ∈ n :: r, y ≤ maxI (if n > m then n else m) r
    obtain ⟨q1, q2, q3⟩ := q
    have q4 : m ≤ maxI (if n > m then n else m) r ∧ n ≤ maxI (if n > m then n else m) r := by
      by_cases hc : n > m
      · rw [if_pos hc] at q2 ⊢; omega
      · rw [if_neg hc] at q2 ⊢; omega
    refine ⟨?_, q4.1, fun y hy => ?_⟩
    · rcases q1 with q1 | q1
      · by_cases hc : n > m
        · rw [if_pos hc] at q1
          exact .inr (by rw [if_pos hc, q1]; exact List.mem_cons_self)
        · rw [if_neg hc] at q1
          exact .inl (by rw [if_neg hc]; exact q1)
      · exact .inr (List.mem_cons_of_mem _ q1)
    · rcases List.mem_cons.mp hy with rfl | hy
      · exact q4.2
      · exact q3 y hy
theorem cs_max (hc : X.calm = true) : CS X E (.builtin "max") maxD := by
  intro dx
  cases dx <;> first
    | exact ⟨_, callr_false, fun _ _ _ _ _ _ w => (show False from w).elim⟩
    | skip
  rename_i ds
  refine ⟨_, cr_max hc, fun G H vx Q s bx w => ?_⟩
  obtain ⟨p, xs, rfl, hp, hr⟩ := bx.lst s
  cases e1 : toInts ds with
  | none => simp only [maxD, e1] at w; exact (show False from w).elim
  | some ns =>
    cases ns with
    | nil => simp only [maxD, e1] at w; exact (show False from w).elim
    | cons n r =>
      simp only [maxD, e1] at w
      have f1 := toInts_eq e1
      subst f1
      have g1 := hr.ints
      subst g1
      refine ⟨p, n :: r, rfl, SqL.of hp, Nat.succ_pos _, fun m hm hle => ?_⟩
      obtain ⟨q1, q2, q3⟩ := maxI_spec r n
      have e2 : m = maxI n r := by
        have a1 : m ≤ maxI n r := by
          rcases List.mem_cons.mp hm with rfl | hm
          · exact q2
          · exact q3 m hm
        have a2 : maxI n r ≤ m := by
          rcases q1 with q1 | q1
          · rw [q1]; exact hle n List.mem_cons_self
          · exact hle _ (List.mem_cons_of_mem _ q1)
        omega
      rw [e2]
      exact wok w s _ (.int _)
theorem cs_run {fv : Value} {o : D → R D} {G0 H0 : Hp} {env : En} {σ : L2.St} {G H : Hp} {Q : VK} (ho : CS X E fv o) (ha : SB X E a f) (r : Rep X.K G0 H0 env σ G H)
    (w : Wish X.mg E G H (fun d G' H' => ∀ v, Rp X.K G' v d → Q v H') (eUn o f env)) (hs : starEach [a] X.env = (false, eval a X.env) :: starEach [] X.env) :
    ∃ (r2 : List V → Hp → VK → Prop) (t : TA), CallR X fv r2 ∧ PA X [a] t ∧ tCB r2 t σ H Q := by
  unfold eUn at w
  have w1 := Wish.bind w
  cases hf : f env with
  | stuck => rw [hf] at w1; exact (show False from w1).elim
  | ex c' =>
    refine ⟨_, _, callr_false, pa_cons re_pe pa_nil hs, ?_⟩
    refine ha G0 H0 env σ G H _ r ?_
    rw [hf] at w1 ⊢
    exact w1
  | ok dx =>
    obtain ⟨r2, h1, h2⟩ := ho dx
    refine ⟨r2, _, h1, pa_cons re_pe pa_nil hs, ?_⟩
    refine ha G0 H0 env σ G H _ r ?_
    rw [hf] at w1 ⊢
    intro G1 H1 e1 vx bx
    exact h2 G1 H1 vx Q e1.sub bx (w1 G1 H1 e1)
theorem se_b1 {id : String} {x : Str} {p : Pos} {o : D → R D} (ho : CS X E (.builtin id) o) (ha : SB X E a f) (hm : X.mg x = none) (hg : Gl X x := by rfl) (hv : bootBuiltins x = some (.builtin id) := by decide +kernel)
    (hn : x ≠ "__name__" := by decide) (hdb : (x == ("__debug__" : Str)) = false := by decide) (hs : starEach [a] X.env = (false, eval a X.env) :: starEach [] X.env := by rfl) (hpl : (backTo pos (starEach [] X.env)).any (·.1) = false := by rfl) :
    SE X E (.Call (.Name x p) [a] [] pos) (eUn o f) := by
  intro G0 H0 env σ G H Q r w
  obtain ⟨r2, t, h1, h2, h3⟩ := cs_run ho ha r w hs
  exact ⟨_, pe_callB h1 hg hm hv h2 hn hdb hs hpl, h3⟩
theorem se_t1 {id : String} {x : Str} {p : Pos} {o : D → R D} (ho : CS X E (.type id) o) (ha : SB X E a f) (hm : X.mg x = none) (hg : Gl X x := by rfl) (hv : bootBuiltins x = some (.type id) := by decide +kernel)
    (hn : x ≠ "__name__" := by decide) (hdb : (x == ("__debug__" : Str)) = false := by decide) (hs : starEach [a] X.env = (false, eval a X.env) :: starEach [] X.env := by rfl) (hpl : (backTo pos (starEach [] X.env)).any (·.1) = false := by rfl) :
    SE X E (.Call (.Name x p) [a] [] pos) (eUn o f) := by
  intro G0 H0 env σ G H Q r w
  obtain ⟨r2, t, h1, h2, h3⟩ := cs_run ho ha r w hs
  exact ⟨_, pe_callTy h1 hg hm hv h2 hn hdb hs hpl, h3⟩
/-- a new list: list(x), sorted(x) -/
def CF (X : Cx) (E : XK) (fv : Value) (o : D → R D) : Prop :=
  ∀ dx, ∃ r : List V → Hp → VK → Prop, CallR X fv r ∧ ∀ (G H : Hp) (vx : V) (Q : VK), Same G H → Bp X.K G H vx dx →
    Wish X.mg E G H (fun d G' H' => ∀ p o, H p = none → H' p = some o → G' p = none → OwnR X.K G' o d → Q (.ref p) H') (o dx) → r [vx] H Q
def listD : D → R D
  | .lst ds => .ok (.lst ds)
  | .tup ds => .ok (.lst ds)
  | .scr ns => .ok (.lst (ns.map D.int))
  | _ => .stuck
theorem cf_list : CF X E (.type "list") listD := by
  intro dx
  cases dx <;> first
    | exact ⟨_, callr_false, fun _ _ _ _ _ _ w => (show False from w).elim⟩
    | skip
  · rename_i ds
    refine ⟨_, call_list_of, fun G H vx Q s bx w => ?_⟩
    obtain ⟨p, xs, rfl, hp, hr⟩ := bx.lst s
    exact ⟨p, xs, rfl, .inl (SqL.of hp), fun t ht => w G _ (Ext.newOwn s ht) t _ ht upd_same (s.free ht) ⟨_, rfl, hr⟩⟩
  · rename_i ds
    refine ⟨_, call_list_of, fun G H vx Q s bx w => ?_⟩
    obtain ⟨p, xs, rfl, hp, hr⟩ := bx.tup
    exact ⟨p, xs, rfl, .inr (SqT.of (s _ _ hp)), fun t ht => w G _ (Ext.newOwn s ht) t _ ht upd_same (s.free ht) ⟨_, rfl, hr⟩⟩
  · rename_i ns
    refine ⟨_, call_list_of, fun G H vx Q s bx w => ?_⟩
    obtain ⟨p, rfl, hp⟩ := bx.scr
    exact ⟨p, _, rfl, .inl (s.seq hp), fun t ht => w G _ (Ext.newOwn s ht) t _ ht upd_same (s.free ht) ⟨_, rfl, rp_ints ns⟩⟩
theorem sf_t1 {id : String} {x : Str} {p : Pos} {o : D → R D} (ho : CF X E (.type id) o) (ha : SB X E a f) (hm : X.mg x = none) (hg : Gl X x := by rfl) (hv : bootBuiltins x = some (.type id) := by decide +kernel)
    (hn : x ≠ "__name__" := by decide) (hdb : (x == ("__debug__" : Str)) = false := by decide) (hs : starEach [a] X.env = (false, eval a X.env) :: starEach [] X.env := by rfl) (hpl : (backTo pos (starEach [] X.env)).any (·.1) = false := by rfl) :
    SF X E (.Call (.Name x p) [a] [] pos) (eUn o f) := by
  intro G0 H0 env σ G H Q r w
  unfold eUn at w
  have w1 := Wish.bind w
  cases hf : f env with
  | stuck => rw [hf] at w1; exact (show False from w1).elim
  | ex c' =>
    refine ⟨_, pe_callTy callr_false hg hm hv (pa_cons re_pe pa_nil hs) hn hdb hs hpl, ?_⟩
    refine ha G0 H0 env σ G H _ r ?_
    rw [hf] at w1 ⊢
    exact w1
  | ok dx =>
    obtain ⟨r2, h1, h2⟩ := ho dx
    refine ⟨_, pe_callTy h1 hg hm hv (pa_cons re_pe pa_nil hs) hn hdb hs hpl, ?_⟩
    refine ha G0 H0 env σ G H _ r ?_
    rw [hf] at w1 ⊢
    intro G1 H1 e1 vx bx
    exact h2 G1 H1 vx Q e1.sub bx ((w1 G1 H1 e1).imp fun d G' H' e' q p o h3 h4 h5 h6 => q p o (e1.hh.free h3) h4 h5 h6)
theorem sf_b1 {id : String} {x : Str} {p : Pos} {o : D → R D} (ho : CF X E (.builtin id) o) (ha : SB X E a f) (hm : X.mg x = none) (hg : Gl X x := by rfl) (hv : bootBuiltins x = some (.builtin id) := by decide +kernel)
    (hn : x ≠ "__name__" := by decide) (hdb : (x == ("__debug__" : Str)) = false := by decide) (hs : starEach [a] X.env = (false, eval a X.env) :: starEach [] X.env := by rfl) (hpl : (backTo pos (starEach [] X.env)).any (·.1) = false := by rfl) :
    SF X E (.Call (.Name x p) [a] [] pos) (eUn o f) := by
  intro G0 H0 env σ G H Q r w
  unfold eUn at w
  have w1 := Wish.bind w
  cases hf : f env with
  | stuck => rw [hf] at w1; exact (show False from w1).elim
  | ex c' =>
    refine ⟨_, pe_callB callr_false hg hm hv (pa_cons re_pe pa_nil hs) hn hdb hs hpl, ?_⟩
    refine ha G0 H0 env σ G H _ r ?_
    rw [hf] at w1 ⊢
    exact w1
  | ok dx =>
    obtain ⟨r2, h1, h2⟩ := ho dx
    refine ⟨_, pe_callB h1 hg hm hv (pa_cons re_pe pa_nil hs) hn hdb hs hpl, ?_⟩
    refine ha G0 H0 env σ G H _ r ?_
    rw [hf] at w1 ⊢
    intro G1 H1 e1 vx bx
    exact h2 G1 H1 vx Q e1.sub bx ((w1 G1 H1 e1).imp fun d G' H' e' q p o h3 h4 h5 h6 => q p o (e1.hh.free h3) h4 h5 h6)
/-- max, min of two ints -/
def max2D : D → D → R D
  | .int i, .int j => .ok (.int (if j > i then j else i))
  | _, _ => .stuck
def min2D : D → D → R D
  | .int i, .int j => .ok (.int (if j < i then j else i))
  | _, _ => .stuck
theorem se_m2 {id : String} {x : Str} {p : Pos} {o : D → D → R D} {k : Int → Int → Int} (hc : CallR X (.builtin id) (fun xs H Q => ∃ i j, xs = [.int i, .int j] ∧ Q (.int (k i j)) H))
    (ho : ∀ dx dy, (∃ i j, dx = .int i ∧ dy = .int j ∧ o dx dy = .ok (.int (k i j))) ∨ o dx dy = .stuck) (ha : SB X E a f) (hb : SB X E b g) (hm : X.mg x = none) (hg : Gl X x := by rfl) (hv : bootBuiltins x = some (.builtin id) := by decide +kernel)
    (hn : x ≠ "__name__" := by decide) (hdb : (x == ("__debug__" : Str)) = false := by decide) (hs : starEach [a, b] X.env = (false, eval a X.env) :: starEach [b] X.env := by rfl) (hs2 : starEach [b] X.env = (false, eval b X.env) :: starEach [] X.env := by rfl)
    (hpl : (backTo pos (starEach [b] X.env)).any (·.1) = false := by rfl) : SE X E (.Call (.Name x p) [a, b] [] pos) (eOp o f g) := by
  intro G0 H0 env σ G H Q r w
  refine ⟨_, pe_callB hc hg hm hv (pa_cons re_pe (pa_cons re_pe pa_nil hs2) hs) hn hdb hs hpl, ?_⟩
  show Re X a σ H (fun x H1 => Re X b σ H1 fun y H2 => ∃ i j, [x, y] = [V.int i, V.int j] ∧ Q (.int (k i j)) H2)
  refine bin_run (P := fun _ _ _ _ _ _ => True) ha hb r ?_
  refine (Wish.bind w).imp fun dx G1 H1 e1 q => ?_
  refine (Wish.bind q).imp fun dy G2 H2 e2 q2 vx vy bx by' => ?_
  rcases ho dx dy with ⟨i, j, rfl, rfl, e⟩ | e
  · rw [e] at q2
    cases bx.int; cases by'.int
    exact ⟨i, j, rfl, q2 G2 H2 (Ext.refl e2.sub) _ (.int _)⟩
  · rw [e] at q2
    exact (show False from q2).elim
theorem max2_ok (dx dy : D) : (∃ i j, dx = .int i ∧ dy = .int j ∧ max2D dx dy = .ok (.int (if j > i then j else i))) ∨ max2D dx dy = .stuck := by
  cases dx <;> cases dy <;> first | exact .inr rfl | exact .inl ⟨_, _, rfl, rfl, rfl⟩
theorem min2_ok (dx dy : D) : (∃ i j, dx = .int i ∧ dy = .int j ∧ min2D dx dy = .ok (.int (if j < i then j else i))) ∨ min2D dx dy = .stuck := by
  cases dx <;> cases dy <;> first | exact .inr rfl | exact .inl ⟨_, _, rfl, rfl, rfl⟩
/-- isinstance(x, T), T a built-in type -/
def tyName : D → Option String
  | .non => none
  | .bl _ => some "bool"
  | .int _ => some "int"
  | .str _ => some "str"
  | .lst _ => some "list"
  | .tup _ => some "tuple"
  | _ => none
def isiD (T : String) (d : D) : R D := match tyName d with
  | some n => match kitB n T with
    | some k => .ok (.bl k)
    | none => .stuck
  | none => .stuck
theorem ty_of {K : PySem.W.Frag} {G H : Hp} {v : V} {d : D} {n : String} (s : Same G H) (b : Bp K G H v d) (h : tyName d = some n) : TyX K H v (.type n) := by
  have r := b.full s
  cases r <;> first | (cases h; done) | skip
  · cases h; exact .base (.bl _)
  · cases h; exact .base (.int _)
  · cases h; exact .base (.str _)
  · rename_i h1 _; cases h; exact .base (.lst h1)
  · rename_i h1 _; cases h; exact .base (.tup h1)
theorem se_isi {x y : Str} {p p2 : Pos} (T : String) (ha : SB X E a f) (hm : X.mg x = none) (hmT : X.mg y = none) (hvT : bootBuiltins y = some (.type T) := by decide +kernel) (hgT : Gl X y := by rfl) (hnT : y ≠ "__name__" := by decide) (hdT : (y == ("__debug__" : Str)) = false := by decide)
    (hg : Gl X x := by rfl) (hv : bootBuiltins x = some (.builtin "isinstance") := by decide +kernel)
    (hn : x ≠ "__name__" := by decide) (hdb : (x == ("__debug__" : Str)) = false := by decide) (hs : starEach [a, .Name y p2] X.env = (false, eval a X.env) :: starEach [.Name y p2] X.env := by rfl) (hs2 : starEach [.Name y p2] X.env = (false, eval (.Name y p2) X.env) :: starEach [] X.env := by rfl)
    (hpl : (backTo pos (starEach [.Name y p2] X.env)).any (·.1) = false := by rfl) : SE X E (.Call (.Name x p) [a, .Name y p2] [] pos) (eUn (isiD T) f) := by
  intro G0 H0 env σ G H Q r w
  refine ⟨_, pe_callB call_isi hg hm hv (pa_cons re_pe (pa_cons (pe_bltn (v := .ty T) hgT hmT hvT rfl hnT hdT) pa_nil hs2) hs) hn hdb hs hpl, ?_⟩
  refine ha G0 H0 env σ G H _ r ((Wish.bind w).imp fun d G1 H1 e1 q v hv => ?_)
  cases e : tyName d with
  | none => simp only [isiD, e] at q; exact (show False from q).elim
  | some n =>
    cases e' : kitB n T with
    | none => simp only [isiD, e, e'] at q; exact (show False from q).elim
    | some k =>
      simp only [isiD, e, e'] at q
      exact ⟨v, .ty T, .type n, .type T, k, rfl, .ty T, ty_of e1.sub hv e, kit_ty e', q G1 H1 (Ext.refl e1.sub) _ (.bl _)⟩

/-! ### list(range(a, b)) -/
def rgL (a b : Int) : List D := (List.range (b - a).toNat).map fun i => D.int (a + (i : Nat))
@[irreducible] def rgOk (a b : Int) : Bool := decide (0 ≤ a ∧ b ≤ 16777216 ∧ a ≤ 16777216 ∧ 0 ≤ b)
theorem rgOk_iff {a b : Int} : rgOk a b = true ↔ 0 ≤ a ∧ b ≤ 16777216 ∧ a ≤ 16777216 ∧ 0 ≤ b := by unfold rgOk; exact decide_eq_true_iff
def lrD : D → D → R D
  | .int i, .int j => if rgOk i j = true then .ok (.lst (rgL i j)) else .stuck
  | _, _ => .stuck
theorem rg_rp {K : PySem.W.Frag} {G : Hp} (a b : Int) : RpAll K G (rgV a b) (rgL a b) := by
  unfold rgV rgL
  induction (List.range (b - a).toNat) with
  | nil => exact .nil
  | cons n r ih => exact .cons (.int _) ih
theorem sf_listR {p q pos' : Pos} (hc : X.calm = true) (ha : SE X E a f) (hb : SE X E b g) (hml : X.mg "list" = none) (hmr : X.mg "range" = none) (hgl : Gl X "list" := by rfl) (hgr : Gl X "range" := by rfl)
    (na : starEach [a, b] X.env = (false, eval a X.env) :: starEach [b] X.env := by rfl) (nb : starEach [b] X.env = (false, eval b X.env) :: starEach [] X.env := by rfl) (hp : (backTo pos' (starEach [b] X.env)).any (·.1) = false := by rfl)
    (ne : starEach [.Call (.Name "range" q) [a, b] [] pos'] X.env = (false, eval (.Call (.Name "range" q) [a, b] [] pos') X.env) :: starEach [] X.env := by rfl) :
    SF X E (.Call (.Name "list" p) [.Call (.Name "range" q) [a, b] [] pos'] [] pos) (eOp lrD f g) := by
  intro G0 H0 env σ G H Q r w
  refine ⟨_, pe_listRg hc hgl hml (prg_2 hgr hmr re_pe re_pe na nb hp) ne, ?_⟩
  show Re X a σ H (fun x H1 => Re X b σ H1 fun y H2 => ∃ i j, x = V.int i ∧ y = V.int j ∧ RgOk i j ∧ ∀ q, H2 q = none → Q (.ref q) (upd H2 q (.lst (rgV i j))))
  refine bin_run (P := fun _ _ _ _ _ _ => True) (sb ha) (sb hb) r ?_
  refine (Wish.bind w).imp fun dx G1 H1 e1 q => ?_
  refine (Wish.bind q).imp fun dy G2 H2 e2 q2 vx vy bx by' => ?_
  cases dx <;> first | exact (show False from q2).elim | skip
  cases dy <;> first | exact (show False from q2).elim | skip
  rename_i i j
  cases bx.int; cases by'.int
  obtain ⟨hl, q3⟩ := wite (c := rgOk i j = true) q2
  obtain ⟨g1, g2, g3, g4⟩ := rgOk_iff.mp hl
  exact ⟨i, j, rfl, rfl, RgOk.of_le g1 g2 g3 g4, fun t ht => q3 G2 _ (Ext.newOwn e2.sub ht) t _ ((e1.trans e2).hh.free ht) upd_same (e2.sub.free ht) ⟨_, rfl, rg_rp i j⟩⟩
end

/-! ### defs -/
def spOf (K : PySem.W.Frag) (mg : Str → Option Value) (n : Nat) (fn : List D → R D) : Sp := fun vs H Q E => vs.length = n ∧ ∃ G ds, Same G H ∧ RpAll K G vs ds ∧
  Wish mg E G H (fun d G' H' => ∀ v, Rp K G' v d → Q v H') (fn ds)
/-- the module's name x is a def of n parameters that answers as fn says -/
structure Fz (P : Program) (w : World) (K : PySem.W.Frag) (mg : Str → Option Value) (base : Heap) (k : Nat) (x : Str) (n : Nat) (fn : List D → R D) : Prop where
  ex : ∃ (f : Addr) (fd : FuncData) (ps : List Str), ps.length = n ∧ mg x = some (.ref f) ∧ PySem.W.keepIn K (.ref f) = true ∧ Binds K fd ps [] ∧ FnOk P w K mg base (L2N.CX P w) k f fd ps (spOf K mg n fn)
section
variable {X : Cx} {E : XK} {e a b c : Expr} {f g h : EF} {pos : Pos} {es : List Expr} {fs : AF}
theorem Fz.mono {P : Program} {w : World} {K : PySem.W.Frag} {mg : Str → Option Value} {base : Heap} {j k : Nat} {x : Str} {n : Nat} {fn : List D → R D} (F : Fz P w K mg base j x n fn) (h : j ≤ k) : Fz P w K mg base k x n fn :=
  let ⟨f, fd, ps, h1, h2, h3, h4, h5⟩ := F.ex
  ⟨f, fd, ps, h1, h2, h3, h4, h5.mono h⟩
theorem se_call {k n : Nat} {x : Str} {p : Pos} {fn : List D → R D} (F : Fz X.prog X.w X.K X.mg X.base k x n fn) (hr : Room k X.A) (hx : Passes (L2N.CX X.prog X.w) X E) (ha : SAn X E (e :: es) fs) (hn : (e :: es).length = n := by rfl) (hg : Gl X x := by rfl)
    (hdb : (x == ("__debug__" : Str)) = false := by decide) (he : starEach (e :: es) X.env = (false, eval e X.env) :: starEach es X.env := by rfl) (hpl : (backTo pos (starEach es X.env)).any (·.1) = false := by rfl) :
    SE X E (.Call (.Name x p) (e :: es) [] pos) (eCall fn fs) := by
  intro G0 H0 env σ G H Q r w
  obtain ⟨fa, fd, ps, h1, h2, h3, h4, h5⟩ := F.ex
  refine ⟨_, pe_call (dvs := []) h5 hr hg h2 h3 h4 .nil hx ra_pa hdb he hpl, ?_⟩
  refine ha G0 H0 env σ G H _ r ((Wish.bind w).imp fun ds G1 H1 e1 q vs hvs hl => ?_)
  rw [List.append_nil]
  exact ⟨hl.trans hn, G1, ds, e1.sub, hvs, q⟩

/-- own lists among the arguments: what comes back is a scalar or a dict of ints -/
def flatR : R D → R D
  | .ok (.int i) => .ok (.int i)
  | .ok (.bl i) => .ok (.bl i)
  | .ok (.str i) => .ok (.str i)
  | .ok .non => .ok .non
  | .ok (.dct k) => .ok (.dct k)
  | .ex c => .ex c
  | _ => .stuck
def noDct : D → Bool
  | .dct _ => false
  | .dctT _ => false
  | _ => true
def eCallB (fn : List D → R D) (f : AF) : EF := fun env => (f env).bind fun ds => if ds.all noDct = true then flatR (fn ds) else .stuck
theorem bp_own {K : PySem.W.Frag} {G H : Hp} (s : Same G H) : ∀ {vs : List V} {ds : List D}, BpAll K G H vs ds → ds.all noDct = true → ∃ G2, Same G G2 ∧ Same G2 H ∧ RpAll K G2 vs ds ∧ ∀ a o, G2 a = some o → G a = some o ∨ (G a = none ∧ ∃ xs, o = .lst xs)
  | _, _, .nil, _ => ⟨G, Same.refl G, s, .nil, fun _ _ h => .inl h⟩
  | _, _, .cons (d := d) h r, hd => by
    rw [List.all_cons, Bool.and_eq_true] at hd
    obtain ⟨G2, g1, g2, g3, g4⟩ := bp_own s r hd.2
    rcases h with h | ⟨p, o, rfl, h1, h2, h3⟩
    · exact ⟨G2, g1, g2, .cons (h.mono g1) g3, g4⟩
    · cases d <;> first | (exact h3.elim) | (cases hd.1; done) | skip
      rename_i ds
      obtain ⟨xs, rfl, hxs⟩ := h3
      have s2 : Same G2 (fun a => if a = p then some (.lst xs) else G2 a) := fun a u z => by
        by_cases e : a = p
        · subst e
          have := g2 _ _ z
          rw [h2] at this
          cases this
          show (if a = a then _ else _) = _
          rw [if_pos rfl]
        · show (if a = p then _ else _) = _
          rw [if_neg e]; exact z
      refine ⟨fun a => if a = p then some (.lst xs) else G2 a, g1.trans s2, fun a u z => ?_, .cons (.lst (by show (if p = p then _ else _) = _; rw [if_pos rfl]) ((hxs.mono g1).mono s2)) (g3.mono s2), fun a u z => ?_⟩
      · by_cases e : a = p
        · subst e
          have z' : (if a = a then some (HO.lst xs) else G2 a) = some u := z
          rw [if_pos rfl] at z'
          cases z'
          exact h2
        · have z' : (if a = p then some (HO.lst xs) else G2 a) = some u := z
          rw [if_neg e] at z'
          exact g2 _ _ z'
      · by_cases e : a = p
        · subst e
          have z' : (if a = a then some (HO.lst xs) else G2 a) = some u := z
          rw [if_pos rfl] at z'
          cases z'
          exact .inr ⟨h1, xs, rfl⟩
        · have z' : (if a = p then some (HO.lst xs) else G2 a) = some u := z
          rw [if_neg e] at z'
          exact g4 _ _ z'
theorem se_callB {k n : Nat} {x : Str} {p : Pos} {fn : List D → R D} (F : Fz X.prog X.w X.K X.mg X.base k x n fn) (hr : Room k X.A) (hx : Passes (L2N.CX X.prog X.w) X E) (ha : SAbn X E (e :: es) fs) (hn : (e :: es).length = n := by rfl) (hg : Gl X x := by rfl)
    (hdb : (x == ("__debug__" : Str)) = false := by decide) (he : starEach (e :: es) X.env = (false, eval e X.env) :: starEach es X.env := by rfl) (hpl : (backTo pos (starEach es X.env)).any (·.1) = false := by rfl) :
    SE X E (.Call (.Name x p) (e :: es) [] pos) (eCallB fn fs) := by
  intro G0 H0 env σ G H Q r w
  obtain ⟨fa, fd, ps, h1, h2, h3, h4, h5⟩ := F.ex
  refine ⟨_, pe_call (dvs := []) h5 hr hg h2 h3 h4 .nil hx ra_pa hdb he hpl, ?_⟩
  refine ha G0 H0 env σ G H _ r ((Wish.bind w).imp fun ds G1 H1 e1 q vs hvs hl => ?_)
  rw [List.append_nil]
  by_cases hd : ds.all noDct = true
  · rw [if_pos hd] at q
    obtain ⟨G2, g1, g2, g3, g4⟩ := bp_own e1.sub hvs hd
    refine ⟨hl.trans hn, G2, ds, g2, g3, ?_⟩
    -- what is new comes beside the clean part
    have down : ∀ {G' H' : Hp}, Ext G2 H1 G' H' → Ext G1 H1 (fun a => if H1 a = none then G' a else G1 a) H' := fun {G' H'} e' => by
      refine ⟨fun a u z => ?_, e'.hh, fun a _ ha => ?_, fun a u z => ?_⟩
      · by_cases hz : H1 a = none
        · have z' : (if H1 a = none then G' a else G1 a) = some u := z
          rw [if_pos hz] at z'
          exact e'.sub _ _ z'
        · have z' : (if H1 a = none then G' a else G1 a) = some u := z
          rw [if_neg hz] at z'
          exact e'.hh _ _ (e1.sub _ _ z')
      · show (if H1 a = none then G' a else G1 a) = G1 a
        rw [if_neg ha]
      · show (if H1 a = none then G' a else G1 a) = some u
        rw [if_neg (fun q => by rw [e1.sub a u z] at q; cases q)]
        exact z
    revert q
    cases hfn : fn ds with
    | stuck => exact fun q => q
    | ex c => exact fun q G' H' C e' hc => q _ H' C (down e') hc
    | ok d =>
      cases d <;> first | exact fun q => (show False from q).elim | skip
      · exact fun q G' H' e' v hv => by cases hv; exact q _ H' (down e') _ .non
      · exact fun q G' H' e' v hv => by cases hv; exact q _ H' (down e') _ (.bl _)
      · exact fun q G' H' e' v hv => by cases hv; exact q _ H' (down e') _ (.int _)
      · exact fun q G' H' e' v hv => by cases hv; exact q _ H' (down e') _ (.str _)
      · rename_i ks
        intro q G' H' e' v hv
        cases hv with
        | dct hv =>
          rename_i t
          refine q _ H' (down e') _ (.dct ?_)
          show (if H1 t = none then G' t else G1 t) = _
          by_cases hz : H1 t = none
          · rw [if_pos hz]; exact hv
          · rw [if_neg hz]
            have hT : ∀ xs, H1 t ≠ some (.tup xs) := fun xs q => by
              have z1 := e'.hh _ _ q
              rw [e'.sub _ _ hv] at z1
              cases z1
            rw [e'.gg t hT hz] at hv
            rcases g4 _ _ hv with h | ⟨_, xs, h⟩
            · exact h
            · cases h
  · rw [if_neg hd] at q
    exact (show False from q).elim
end
end Cn

namespace Cn
open PySem PySem.Spec PyProof.Rows L2

/-! ### what is walked -/
def Walks (K : PySem.W.Frag) (J : It) (ds : List D) (G : Hp) : Prop := ∀ (i : Nat) (G1 H1 : Hp), Same G G1 → Same G1 H1 →
  (i < ds.length → J.go i H1 ∧ ∀ x H2, J.yld i H1 x H2 → ∃ G2, Ext G1 H1 G2 H2 ∧ ∃ d, ds[i]? = some d ∧ Rp K G2 x d) ∧ (ds.length ≤ i → J.stop i H1)
def SI (X : Cx) (E : XK) (tg iter : Expr) (fi : AF) : Prop := ∀ (G0 H0 : Hp) (env : En) (σ : L2.St) (G H : Hp) (Rr : It → Hp → Prop), Rep X.K G0 H0 env σ G H →
  Wish X.mg E G H (fun ds G' H' => ∀ J, Walks X.K J ds G' → Rr J H') (fi env) → ∃ wi, PI X tg iter wi ∧ wi σ H Rr
def Ri (X : Cx) (tg iter : Expr) : TI := fun σ H Rr => ∃ wi, PI X tg iter wi ∧ wi σ H Rr
theorem ri_pi {X : Cx} {tg iter : Expr} : PI X tg iter (Ri X tg iter) := ⟨fun pins s σ H Rr I ⟨t, h, q⟩ => h.run pins s σ H Rr I q⟩
def seqD : D → R (List D)
  | .lst ds => .ok ds
  | .scr ns => .ok (ns.map D.int)
  | _ => .stuck
def tupD : D → R (List D)
  | .tup ds => .ok ds
  | _ => .stuck
def iL (f : EF) : AF := fun env => (f env).bind seqD
def iT (f : EF) : AF := fun env => (f env).bind tupD
@[irreducible] def B62 (i : Int) : Bool := Nat.ble i.natAbs 1000000000
theorem B62_iff {i : Int} : B62 i = true ↔ -1000000000 ≤ i ∧ i ≤ 1000000000 := by unfold B62; rw [Nat.ble_eq]; omega
def rg1D : D → R (List D)
  | .int j => if B62 j = true then .ok (rgL 0 j) else .stuck
  | _ => .stuck
def rg2D : D → D → R (List D)
  | .int i, .int j => if (B62 i && B62 j) = true then .ok (rgL i j) else .stuck
  | _, _ => .stuck
def rgDown (i j : Int) : List D := (List.range (i - j).toNat).map fun k => D.int (i - (k : Nat))
def rg3D : D → D → D → R (List D)
  | .int i, .int j, .int c => if (decide (c = -1) && B62 i && B62 j) = true then .ok (rgDown i j) else .stuck
  | _, _, _ => .stuck
def iR1 (f : EF) : AF := fun env => (f env).bind rg1D
def iR2 (f g : EF) : AF := fun env => (f env).bind fun x => (g env).bind fun y => rg2D x y
def iR3 (f g h : EF) : AF := fun env => (f env).bind fun x => (g env).bind fun y => (h env).bind fun z => rg3D x y z
section
variable {X : Cx} {E : XK} {e a b c : Expr} {f g h : EF} {pos p : Pos} {tg : Expr}
theorem walks_l {K : PySem.W.Frag} {G : Hp} {p : Addr} {xs : List V} {ds : List D} (hp : G p = some (.lst xs)) (r : RpAll K G xs ds) : Walks K (Itl K p) ds G := by
  intro i G1 H1 s1 s2
  have hp1 : H1 p = some (.lst xs) := s2 _ _ (s1 _ _ hp)
  refine ⟨fun hi => ?_, fun hi => ⟨xs, SqL.of hp1, by rw [r.length]; exact hi⟩⟩
  obtain ⟨v, h1, h2⟩ := r.get (i := i) (d := ds[i]) (List.getElem?_eq_getElem hi)
  refine ⟨⟨xs, v, SqL.of hp1, h1⟩, fun x H2 y => ?_⟩
  obtain ⟨rfl, y⟩ := y
  have y2 := y xs (SqL.of hp1)
  rw [h1] at y2
  cases y2
  exact ⟨G1, Ext.refl s2, _, List.getElem?_eq_getElem hi, h2.mono s1⟩
theorem walks_s {K : PySem.W.Frag} {G : Hp} {p : Addr} {ns : List Int} (hp : SqL K G p (ns.map V.int)) : Walks K (Itl K p) (ns.map D.int) G := by
  intro i G1 H1 s1 s2
  have hp1 : SqL K H1 p (ns.map V.int) := s2.seq (s1.seq hp)
  refine ⟨fun hi => ?_, fun hi => ⟨_, hp1, by rw [List.length_map] at hi ⊢; exact hi⟩⟩
  rw [List.length_map] at hi
  have h1 : (ns.map V.int)[i]? = some (.int ns[i]) := by rw [List.getElem?_map, List.getElem?_eq_getElem hi]; rfl
  refine ⟨⟨_, _, hp1, h1⟩, fun x H2 y => ?_⟩
  obtain ⟨rfl, y⟩ := y
  have y2 := y _ hp1
  rw [h1] at y2
  cases y2
  exact ⟨G1, Ext.refl s2, D.int ns[i], by rw [List.getElem?_map, List.getElem?_eq_getElem hi]; rfl, .int _⟩
theorem walks_t {K : PySem.W.Frag} {G : Hp} {p : Addr} {xs : List V} {ds : List D} (hp : G p = some (.tup xs)) (r : RpAll K G xs ds) : Walks K (Itt K p) ds G := by
  intro i G1 H1 s1 s2
  have hp1 : H1 p = some (.tup xs) := s2 _ _ (s1 _ _ hp)
  refine ⟨fun hi => ?_, fun hi => ⟨xs, SqT.of hp1, by rw [r.length]; exact hi⟩⟩
  obtain ⟨v, h1, h2⟩ := r.get (i := i) (d := ds[i]) (List.getElem?_eq_getElem hi)
  refine ⟨⟨xs, v, SqT.of hp1, h1⟩, fun x H2 y => ?_⟩
  obtain ⟨rfl, y⟩ := y
  have y2 := y xs (SqT.of hp1)
  rw [h1] at y2
  cases y2
  exact ⟨G1, Ext.refl s2, _, List.getElem?_eq_getElem hi, h2.mono s1⟩
theorem rgL_get {a b : Int} {i : Nat} (h : i < (b - a).toNat) : (rgL a b)[i]? = some (D.int (a + (i : Nat))) := by
  unfold rgL
  rw [List.getElem?_map, List.getElem?_range h]
  rfl
theorem rgL_length (a b : Int) : (rgL a b).length = (b - a).toNat := by unfold rgL; rw [List.length_map, List.length_range]
theorem walks_r {K : PySem.W.Frag} {G : Hp} (lo hi : Int) : Walks K (Itr lo (hi - lo).toNat) (rgL lo hi) G := by
  intro i G1 H1 s1 s2
  rw [rgL_length]
  refine ⟨fun hi' => ⟨hi', fun x H2 y => ?_⟩, fun hi' => hi'⟩
  obtain ⟨rfl, rfl⟩ := y
  exact ⟨G1, Ext.refl s2, _, rgL_get hi', .int _⟩
theorem walks_d {K : PySem.W.Frag} {G : Hp} (i0 j0 : Int) : Walks K (Itc i0 (-1) (i0 - j0).toNat) (rgDown i0 j0) G := by
  intro i G1 H1 s1 s2
  have hl : (rgDown i0 j0).length = (i0 - j0).toNat := by unfold rgDown; rw [List.length_map, List.length_range]
  rw [hl]
  refine ⟨fun hi' => ⟨hi', fun x H2 y => ?_⟩, fun hi' => hi'⟩
  obtain ⟨rfl, rfl⟩ := y
  refine ⟨G1, Ext.refl s2, D.int (i0 - (i : Nat)), ?_, ?_⟩
  · unfold rgDown
    rw [List.getElem?_map, List.getElem?_range hi']
    rfl
  · have : i0 + ((i : Nat) : Int) * -1 = i0 - ((i : Nat) : Int) := by omega
    rw [this]
    exact .int _
theorem si_list (ha : SE X E a f) : SI X E tg a (iL f) := by
  intro G0 H0 env σ G H Rr r w
  refine ⟨_, pi_list re_pe, ?_⟩
  refine ha G0 H0 env σ G H _ r ((Wish.bind w).imp fun d G1 H1 e1 q v hv => ?_)
  cases d <;> first | exact (show False from q).elim | skip
  · cases hv with
    | lst hp hr => exact ⟨_, rfl, ⟨_, SqL.of (e1.sub _ _ hp)⟩, q G1 H1 (Ext.refl e1.sub) _ (walks_l hp hr)⟩
  · cases hv with
    | scr hp => exact ⟨_, rfl, ⟨_, e1.sub.seq hp⟩, q G1 H1 (Ext.refl e1.sub) _ (walks_s hp)⟩
theorem si_tup (ha : SE X E a f) : SI X E tg a (iT f) := by
  intro G0 H0 env σ G H Rr r w
  refine ⟨_, pi_tup re_pe, ?_⟩
  refine ha G0 H0 env σ G H _ r ((Wish.bind w).imp fun d G1 H1 e1 q v hv => ?_)
  cases d <;> first | exact (show False from q).elim | skip
  cases hv with
  | tup hp hr => exact ⟨_, rfl, ⟨_, SqT.of (e1.sub _ _ hp)⟩, q G1 H1 (Ext.refl e1.sub) _ (walks_t hp hr)⟩
theorem si_r1 (ha : SE X E a f) (hm : X.mg "range" = none) (hg : Gl X "range" := by rfl) (hs : starEach [a] X.env = [(false, eval a X.env)] := by rfl) (hs1 : starEach [a] X.env = (false, eval a X.env) :: starEach [] X.env := by rfl) :
    SI X E tg (.Call (.Name "range" p) [a] [] pos) (iR1 f) := by
  intro G0 H0 env σ G H Rr r w
  refine ⟨_, pi_range1 hg hm (pa_cons re_pe pa_nil hs1) hs, ?_⟩
  refine ha G0 H0 env σ G H _ r ((Wish.bind w).imp fun d G1 H1 e1 q v hv => ?_)
  cases d <;> first | exact (show False from q).elim | skip
  rename_i j
  cases hv
  obtain ⟨hb, q2⟩ := wite (c := B62 j = true) q
  obtain ⟨h1, h2⟩ := B62_iff.mp hb
  refine ⟨j, rfl, by omega, by omega, ?_⟩
  have z := walks_r (K := X.K) (G := G1) 0 j
  rw [Int.sub_zero] at z
  exact q2 G1 H1 (Ext.refl e1.sub) _ z
theorem si_r2 (ha : SE X E a f) (hb : SE X E b g) (hm : X.mg "range" = none) (hg : Gl X "range" := by rfl) (hs : starEach [a, b] X.env = [(false, eval a X.env), (false, eval b X.env)] := by rfl) (hs2 : starEach [b] X.env = [(false, eval b X.env)] := by rfl)
    (na : starEach [a, b] X.env = (false, eval a X.env) :: starEach [b] X.env := by rfl) (nb : starEach [b] X.env = (false, eval b X.env) :: starEach [] X.env := by rfl) :
    SI X E tg (.Call (.Name "range" p) [a, b] [] pos) (iR2 f g) := by
  intro G0 H0 env σ G H Rr r w
  refine ⟨_, pi_range2 hg hm (pa_cons re_pe (pa_cons re_pe pa_nil nb) na) hs hs2, ?_⟩
  show Re X a σ H (fun x H1 => Re X b σ H1 fun y H2 => ∃ i j : Int, [x, y] = [V.int i, V.int j] ∧ (-(2 ^ 62) ≤ i ∧ i < 2 ^ 62 ∧ -(2 ^ 62) ≤ j ∧ j < 2 ^ 62) ∧ Rr (Itr i (j - i).toNat) H2)
  refine bin_run (P := fun _ _ _ _ _ _ => True) (sb ha) (sb hb) r ?_
  refine (Wish.bind w).imp fun dx G1 H1 e1 q => ?_
  refine (Wish.bind q).imp fun dy G2 H2 e2 q2 vx vy bx by' => ?_
  cases dx <;> first | exact (show False from q2).elim | skip
  cases dy <;> first | exact (show False from q2).elim | skip
  rename_i i j
  cases bx.int; cases by'.int
  obtain ⟨hl, q3⟩ := wite (c := (B62 i && B62 j) = true) q2
  rw [Bool.and_eq_true] at hl
  obtain ⟨h1, h2⟩ := B62_iff.mp hl.1
  obtain ⟨h3, h4⟩ := B62_iff.mp hl.2
  exact ⟨i, j, rfl, ⟨by omega, by omega, by omega, by omega⟩, q3 G2 H2 (Ext.refl e2.sub) _ (walks_r i j)⟩
theorem si_r3 (ha : SE X E a f) (hb : SE X E b g) (hc : SE X E c h) (hm : X.mg "range" = none) (hg : Gl X "range" := by rfl) (hs : starEach [a, b, c] X.env = (false, eval a X.env) :: starEach [b, c] X.env := by rfl) (hpl : (backTo pos (starEach [b, c] X.env)).any (·.1) = false := by rfl)
    (nb : starEach [b, c] X.env = (false, eval b X.env) :: starEach [c] X.env := by rfl) (nc : starEach [c] X.env = (false, eval c X.env) :: starEach [] X.env := by rfl) :
    SI X E tg (.Call (.Name "range" p) [a, b, c] [] pos) (iR3 f g h) := by
  intro G0 H0 env σ G H Rr r w
  refine ⟨_, pi_range3 hg hm (pa_cons re_pe (pa_cons re_pe (pa_cons re_pe pa_nil nc) nb) hs) hs hpl, ?_⟩
  refine ha G0 H0 env σ G H _ r ((Wish.bind w).imp fun dx G1 H1 e1 q v hv => ?_)
  refine hb G0 H0 env σ G1 H1 _ (r.grow e1) ((Wish.bind q).imp fun dy G2 H2 e2 q2 v2 hv2 => ?_)
  refine hc G0 H0 env σ G2 H2 _ ((r.grow e1).grow e2) ((Wish.bind q2).imp fun dz G3 H3 e3 q3 v3 hv3 => ?_)
  cases dx <;> first | exact (show False from q3).elim | skip
  cases dy <;> first | exact (show False from q3).elim | skip
  cases dz <;> first | exact (show False from q3).elim | skip
  rename_i i j k
  cases hv; cases hv2; cases hv3
  obtain ⟨hl, q4⟩ := wite (c := (decide (k = -1) && B62 i && B62 j) = true) q3
  rw [Bool.and_eq_true, Bool.and_eq_true] at hl
  obtain ⟨⟨h0, h1⟩, h3⟩ := hl
  have h0 := of_decide_eq_true h0
  subst h0
  obtain ⟨h1, h2⟩ := B62_iff.mp h1
  obtain ⟨h3, h4⟩ := B62_iff.mp h3
  exact ⟨i, j, -1, _, rfl, RgC.neg (by omega) (by omega) (by omega) (by omega), q4 G3 H3 (Ext.refl e3.sub) _ (walks_d i j)⟩
end

/-! ### list comprehensions: one for, a name, no test or one -/
def eYes : EF := fun _ => .ok (.bl true)
def compL (j : Nat) (t e : EF) (env : En) : List D → R (List D)
  | [] => .ok []
  | d :: r => match t (env.set j (.val d)) with
    | .ok (.bl true) => match e (env.set j (.val d)) with
      | .ok v => (compL j t e env r).bind fun vs => .ok (v :: vs)
      | _ => .stuck
    | .ok (.bl false) => compL j t e env r
    | _ => .stuck
def eComp (fi : AF) (j : Nat) (t e : EF) : EF := fun env => (fi env).bind fun ds => if ds.length ≤ LIM then (match compL j t e env ds with
  | .ok vs => .ok (.lst vs)
  | _ => .stuck) else .stuck
def STs (X : Cx) (ifs : List Expr) (f : EF) : Prop := ∀ (G0 H0 : Hp) (env : En) (σ : L2.St) (G H : Hp) (Q : Bool → Hp → Prop), Rep X.K G0 H0 env σ G H →
  Wish X.mg E0 G H (fun d _ H' => ∃ b, d = .bl b ∧ Q b H') (f env) → ∃ t : TT, PTs X ifs t ∧ t σ H Q
theorem sts_nil {X : Cx} : STs X [] eYes := fun G0 H0 env σ G H Q r w => ⟨_, pts_nil, by
  obtain ⟨b, e, q⟩ := w G H (Ext.refl r.sub)
  cases e
  exact q⟩
theorem sts_one {X : Cx} {c : Expr} {f : EF} (hc : ST X E0 c f) : STs X [c] f := fun G0 H0 env σ G H Q r w =>
  let ⟨_, h1, h2⟩ := hc G0 H0 env σ G H Q r w
  ⟨_, pts_one h1, h2⟩
section
variable {X : Cx} {E : XK} {elt tg iter : Expr} {ifs : List Expr} {fi : AF} {t e : EF} {scope : Scope} {j : Nat} {x : Str} {pos p : Pos}
theorem lc_walk (hi : SI X E (.Name x p) iter fi) (ht : ∀ s H C cl fp, STs (X.blk s H scope (compEnvC scope cl C X.env) fp) ifs t) (he : ∀ s H C cl fp, SE (X.blk s H scope (compEnvC scope cl C X.env) fp) E0 elt e)
    (G0 H0 : Hp) (env : En) (σ : L2.St) (G H : Hp) (Q : VK) (r : Rep X.K G0 H0 env σ G H) (w : Wish X.mg E G H (fun d G' H' => ∀ p o, H p = none → H' p = some o → G' p = none → OwnR X.K G' o d → Q (.ref p) H') (eComp fi j t e env)) :
    tLc (Ri X (.Name x p) iter) (gName j) (fun σ H Q => ∀ s H' C cl fp, ∃ tt : TT, PTs (X.blk s H' scope (compEnvC scope cl C X.env) fp) ifs tt ∧ tt σ H Q)
      (fun σ H Q => ∀ s H' C cl fp, Re (X.blk s H' scope (compEnvC scope cl C X.env) fp) elt σ H Q) [j] σ H Q := by
  refine hi G0 H0 env σ G H _ r ((Wish.bind w).imp fun ds G1 H1 e1 q J hJ => ?_)
  intro D0 hD0
  obtain ⟨hlen, q⟩ : ds.length ≤ LIM ∧ Wish X.mg E G1 H1 (fun d G' H' => ∀ p o, H p = none → H' p = some o → G' p = none → OwnR X.K G' o d → Q (.ref p) H') (match compL j t e env ds with
      | .ok vs => .ok (.lst vs)
      | _ => .stuck) := by
    by_cases h : ds.length ≤ LIM
    · rw [if_pos h] at q; exact ⟨h, q⟩
    · rw [if_neg h] at q; exact (show False from q).elim
  cases hc : compL j t e env ds with
  | stuck => rw [hc] at q; exact (show False from q).elim
  | ex c => rw [hc] at q; exact (show False from q).elim
  | ok res =>
  rw [hc] at q
  have eD : Ext G1 H1 G1 (upd H1 D0 (.lst [])) := Ext.newOwn e1.sub hD0
  refine ⟨fun i m H' => m = ds.length - i ∧ i ≤ ds.length ∧ ∃ G' acc dacc rest, Ext G1 H1 G' H' ∧ H' D0 = some (.lst acc) ∧ G' D0 = none ∧ RpAll X.K G' acc dacc ∧ dacc.length ≤ i ∧ compL j t e env (ds.drop i) = .ok rest ∧ dacc ++ rest = res,
    ⟨ds.length, by omega, Nat.zero_le _, G1, [], [], res, eD, upd_same, e1.sub.free hD0, .nil, Nat.zero_le _, hc, rfl⟩, ?_⟩
  rintro i m H2 ⟨rfl, hi2, G2, acc, dacc, rest, x2, a2, g2, r2, l2, c2, hres⟩
  have rep2 : Rep X.K G0 H0 (env.set j .no) (wipe σ [j]) G2 H2 := ((r.grow e1).grow x2).setNo
  obtain ⟨hgo, hstop⟩ := hJ i G2 H2 (x2.same e1.sub) x2.sub
  by_cases hlt : i < ds.length
  · obtain ⟨hg, hy⟩ := hgo hlt
    refine .inr ⟨hg, fun H' => ∃ G' acc dacc rest', Ext G1 H1 G' H' ∧ H' D0 = some (.lst acc) ∧ G' D0 = none ∧ RpAll X.K G' acc dacc ∧ dacc.length ≤ i + 1 ∧ compL j t e env (ds.drop (i + 1)) = .ok rest' ∧ dacc ++ rest' = res,
      fun H' ⟨G', acc', dacc', rest', y⟩ => ⟨ds.length - (i + 1), by omega, rfl, hlt, G', acc', dacc', rest', y⟩, fun x H3 y => ?_⟩
    obtain ⟨G3, e3, d, hd, rd⟩ := hy x H3 y
    have hdrop : ds.drop i = d :: ds.drop (i + 1) := by
      rw [List.drop_eq_getElem_cons hlt]
      rw [List.getElem?_eq_getElem hlt] at hd
      cases hd
      rfl
    rw [hdrop] at c2
    have rep3 : Rep X.K G0 H0 (env.set j (.val d)) ((wipe σ [j]).set j (some x)) G3 H3 := by
      have z := (rep2.grow e3).setVal (i := j) rd
      rw [List.set_set] at z
      exact z
    have a3 : H3 D0 = some (.lst acc) := e3.hh _ _ a2
    have g3 : G3 D0 = none := e3.out a2 (fun _ z => nomatch z) g2
    have x3 := x2.trans e3
    have r3 := r2.mono (e3.same x2.sub)
    refine ⟨?_, fun s' Hb C cl fp => ?_⟩
    · show List.set (List.set (List.set σ j none) j (some x)) j none = List.set σ j none
      rw [List.set_set, List.set_set]
    · refine ht s' Hb C cl fp G0 H0 _ _ G3 H3 _ rep3 ?_
      unfold compL at c2
      cases hte : t (env.set j (.val d)) with
      | stuck => rw [hte] at c2; cases c2
      | ex c => rw [hte] at c2; cases c2
      | ok dt =>
        rw [hte] at c2
        cases dt <;> first | (cases c2; done) | skip
        rename_i k
        intro G4 H4 e4
        have a4 : H4 D0 = some (.lst acc) := e4.hh _ _ a3
        have g4 : G4 D0 = none := e4.out a3 (fun _ z => nomatch z) g3
        have x4 := x3.trans e4
        have r4 := r3.mono (e4.same x3.sub)
        refine ⟨k, rfl, ?_⟩
        cases k with
        | false => exact ⟨G4, acc, dacc, rest, x4, a4, g4, r4, by omega, c2, hres⟩
        | true =>
          rw [if_pos rfl]
          intro s' Hb C cl fp
          refine he s' Hb C cl fp G0 H0 _ _ G4 H4 _ (rep3.grow e4) ?_
          cases hee : e (env.set j (.val d)) with
          | stuck => simp only [hee] at c2; cases c2
          | ex c => simp only [hee] at c2; cases c2
          | ok dv =>
            simp only [hee] at c2
            intro G5 H5 e5 y hyv
            have a5 : H5 D0 = some (.lst acc) := e5.hh _ _ a4
            have g5 : G5 D0 = none := e5.out a4 (fun _ z => nomatch z) g4
            have x5 := x4.trans e5
            have r5 := r4.mono (e5.same x4.sub)
            cases hrest : compL j t e env (ds.drop (i + 1)) with
            | stuck => rw [hrest] at c2; cases c2
            | ex c => rw [hrest] at c2; cases c2
            | ok rest' =>
              rw [hrest] at c2
              have c3 : dv :: rest' = rest := by
                have z : R.ok (dv :: rest') = R.ok rest := c2
                injection z
              have ha5 : acc.length < sizeLine := lim_lt (by rw [r2.length]; omega)
              refine ⟨acc, a5, ha5, G5, acc ++ [y], dacc ++ [dv], rest', ⟨fun a o z => ?_, fun a o z => ?_, x5.gg, x5.sm⟩, upd_same, g5, r5.append (.cons hyv .nil), ?_, rfl, ?_⟩
              · rw [upd_ne (ne_of_none z g5)]; exact x5.sub a o z
              · rw [upd_ne (ne_of_none z hD0)]; exact x5.hh a o z
              · rw [List.length_append, List.length_singleton]; omega
              · rw [← hres, ← c3, List.append_assoc]; rfl
  · refine .inl ⟨hstop (by omega), ?_⟩
    have hdrop : ds.drop i = [] := List.drop_eq_nil_of_le (by omega)
    rw [hdrop] at c2
    cases c2
    rw [List.append_nil] at hres
    subst hres
    exact q G2 H2 x2 D0 (.lst acc) (e1.hh.free hD0) a2 g2 ⟨acc, rfl, r2⟩
theorem sf_lc (hcalm : X.calm = true) (hN : X.N.Nodup) (hi : SI X E (.Name x p) iter fi) (ok : BlkOk X.N X.env.scope scope [(x, j)]) (hg : ∀ s H C cl fp, PG (X.blk s H scope (compEnvC scope cl C X.env) fp) (.Name x p) (gName j))
    (ht : ∀ s H C cl fp, STs (X.blk s H scope (compEnvC scope cl C X.env) fp) ifs t) (he : ∀ s H C cl fp, SE (X.blk s H scope (compEnvC scope cl C X.env) fp) E0 elt e) (hs : ∀ x, foldedSetIterable iter X.env x = pure x := by intro _; rfl) :
    SF X E (.ListComp elt [⟨.Name x p, iter, ifs, 0⟩] scope pos) (eComp fi j t e) := by
  intro G0 H0 env σ G H Q r w
  refine ⟨_, pe_lc (own := [(x, j)]) hcalm hN ri_pi ok hg (fun s Hb C cl fp => ⟨fun pins s' σ' H' Q' I h => ?_⟩) (fun s Hb C cl fp => ⟨fun pins s' σ' H' Q' I h => ?_⟩) hs, lc_walk hi ht he G0 H0 env σ G H Q r w⟩
  · obtain ⟨tt, h1, h2⟩ := h s Hb C cl fp
    exact h1.run pins s' σ' H' Q' I h2
  · exact re_pe.run pins s' σ' H' Q' I (h s Hb C cl fp)
end

/-! ### statements -/
inductive Out where
  | nx (env : En) | rt (d : D) | bk (env : En) | ct (env : En) | ex (c : Str) | stuck
abbrev SFn := En → Out
def WishS (mg : Str → Option Value) (E : XK) (K : PySem.W.Frag) (G0 H0 : Hp) (G : Hp) (D : Ends) : Out → Prop
  | .nx env => ∀ σ' G' H', Rep K G0 H0 env σ' G' H' → Same G G' → D.nx σ' H'
  | .bk env => ∀ σ' G' H', Rep K G0 H0 env σ' G' H' → Same G G' → D.bk σ' H'
  | .ct env => ∀ σ' G' H', Rep K G0 H0 env σ' G' H' → Same G G' → D.ct σ' H'
  | .rt d => ∀ v G' H', Ext G0 H0 G' H' → Rp K G' v d → D.rt v H'
  | .ex c => ∀ G' H' C, Ext G0 H0 G' H' → mg c = some (.ref C) → E (.ref C) none H'
  | .stuck => False
theorem WishS.up {mg : Str → Option Value} {E : XK} {K : PySem.W.Frag} {G0 H0 G G1 : Hp} {D : Ends} (s : Same G G1) : ∀ {o : Out}, WishS mg E K G0 H0 G D o → WishS mg E K G0 H0 G1 D o
  | .nx _, h => fun σ' G' H' r s' => h σ' G' H' r (s.trans s')
  | .bk _, h => fun σ' G' H' r s' => h σ' G' H' r (s.trans s')
  | .ct _, h => fun σ' G' H' r s' => h σ' G' H' r (s.trans s')
  | .rt _, h => h
  | .ex _, h => h
  | .stuck, h => h
def SS (X : Cx) (E : XK) (st : Stmt) (F : SFn) : Prop := ∀ (G0 H0 : Hp) (env : En) (σ : L2.St) (G H : Hp) (D : Ends), Rep X.K G0 H0 env σ G H → WishS X.mg E X.K G0 H0 G D (F env) → Rs X st D σ H
def SSs (X : Cx) (E : XK) (sts : List Stmt) (F : SFn) : Prop := ∀ (G0 H0 : Hp) (env : En) (σ : L2.St) (G H : Hp) (D : Ends), Rep X.K G0 H0 env σ G H → WishS X.mg E X.K G0 H0 G D (F env) → Rss X sts D σ H
def rOut (r : R D) (k : D → Out) : Out := match r with
  | .ok d => k d
  | .ex c => .ex c
  | .stuck => .stuck
/-- an expression within a statement -/
theorem out_wish {mg : Str → Option Value} {E : XK} {K : PySem.W.Frag} {G0 H0 G H : Hp} {env : En} {σ : L2.St} {D : Ends} {r : R Cn.D} {k : Cn.D → Out} {P : Cn.D → Hp → Hp → Prop} (rp : Rep K G0 H0 env σ G H) (w : WishS mg E K G0 H0 G D (rOut r k))
    (f : ∀ d G' H', Ext G H G' H' → WishS mg E K G0 H0 G' D (k d) → P d G' H') : Wish mg E G H P r := by
  cases r with
  | ok d => exact fun G' H' e => f d G' H' e (WishS.up (o := k d) (e.same rp.sub) w)
  | ex c => exact fun G' H' C e hc => w G' H' C (rp.ext.trans e) hc
  | stuck => exact w
def sNil : SFn := fun env => .nx env
def sSeq (a b : SFn) : SFn := fun env => match a env with
  | .nx e => b e
  | o => o
def sIf (c : EF) (a b : SFn) : SFn := fun env => rOut (c env) fun d => match d with
  | .bl true => a env
  | .bl false => b env
  | _ => .stuck
def sAsg (i : Nat) (f : EF) : SFn := fun env => rOut (f env) fun d => .nx (env.set i (.val d))
def sOwn (i : Nat) (f : EF) : SFn := fun env => rOut (f env) fun d => .nx (env.set i (.own d))
def sRet (f : EF) : SFn := fun env => rOut (f env) fun d => .rt d
def sRetO (i : Nat) : SFn := fun env => match env[i]? with
  | some (.val d) => .rt d
  | some (.own d) => .rt d
  | _ => .stuck
def sRaise (c : Str) : SFn := fun _ => .ex c
def frz (i : Nat) (env : En) : En := match env[i]? with
  | some (.own d) => env.set i (.val d)
  | _ => env
def sFrz (i : Nat) (F : SFn) : SFn := fun env => F (frz i env)
def sApp (i : Nat) (f : EF) : SFn := fun env => match env[i]? with
  | some (.own (.lst ds)) => rOut (f env) fun d => if ds.length < LIM then .nx (env.set i (.own (.lst (ds ++ [d])))) else .stuck
  | _ => .stuck
def sExt (i : Nat) (f : EF) : SFn := fun env => match env[i]? with
  | some (.own (.lst ds)) => rOut (f env) fun d => match d with
    | .lst es => if ds.length + es.length ≤ LIM then .nx (env.set i (.own (.lst (ds ++ es)))) else .stuck
    | _ => .stuck
  | _ => .stuck
def addK {α : Type} [DecidableEq α] (ks : List α) (k : α) : List α := if k ∈ ks then ks else ks ++ [k]
/-- x[k] = v: v is reckoned first -/
def sPut (i : Nat) (fk fv : EF) : SFn := fun env => match env[i]? with
  | some (.own (.lst ds)) => rOut (fv env) fun v => rOut (fk env) fun k => match k with
    | .int n => match ixN ds.length n with
      | some m => .nx (env.set i (.own (.lst (ds.set m v))))
      | none => .stuck
    | _ => .stuck
  | _ => .stuck
/-- d[k] = True -/
def sPutD (i : Nat) (fk : EF) : SFn := fun env => match env[i]? with
  | some (.own (.dct ks)) => rOut (fk env) fun k => match k with
    | .int n => if ks.length < LIM then .nx (env.set i (.own (.dct (addK ks n)))) else .stuck
    | _ => .stuck
  | some (.own (.dctT ks)) => rOut (fk env) fun k => match k with
    | .tup xs => match toInts xs with
      | some ns => if ks.length < LIM then .nx (env.set i (.own (.dctT (addK ks ns)))) else .stuck
      | none => .stuck
    | _ => .stuck
  | _ => .stuck
def forL (tgt : D → En → Option En) (body : SFn) : List D → SFn
  | [], env => .nx env
  | d :: r, env => match tgt d env with
    | none => .stuck
    | some env1 => match body env1 with
      | .nx e => forL tgt body r e
      | .ct e => forL tgt body r e
      | .bk e => .nx e
      | .rt d => .rt d
      | .ex c => .ex c
      | .stuck => .stuck
def sFor (fi : AF) (tgt : D → En → Option En) (body : SFn) : SFn := fun env => match fi env with
  | .ok ds => forL tgt body ds env
  | .ex c => .ex c
  | .stuck => .stuck
def tgN (j : Nat) : D → En → Option En := fun d env => some (env.set j (.val d))
def tgP (i j : Nat) : D → En → Option En := fun d env => match d with
  | .tup [a, b] => some ((env.set i (.val a)).set j (.val b))
  | _ => none
def whileF (c : EF) (body : SFn) : Nat → SFn
  | 0, _ => .stuck
  | n + 1, env => rOut (c env) fun d => match d with
    | .bl true => match body env with
      | .nx e => whileF c body n e
      | .ct e => whileF c body n e
      | .bk e => .nx e
      | .rt d => .rt d
      | .ex c => .ex c
      | .stuck => .stuck
    | .bl false => .nx env
    | _ => .stuck
def sWhile (n : Nat) (c : EF) (body : SFn) : SFn := whileF c body n
end Cn

namespace Cn
open PySem PySem.Spec PyProof.Rows L2
section
variable {X : Cx} {E : XK} {e a b c : Expr} {f g h fk fv : EF} {pos p : Pos} {st : Stmt} {rest sts sts' : List Stmt} {F F' : SFn}
theorem ss_nil : SSs X E [] sNil := fun G0 H0 env σ G H D r w => ⟨_, pss_nil, w σ G H r (Same.refl G)⟩
theorem ss_cons (h1 : SS X E st F) (h2 : SSs X E rest F') : SSs X E (st :: rest) (sSeq F F') := by
  intro G0 H0 env σ G H D r w
  refine ⟨_, pss_cons rs_ps rss_pss, ?_⟩
  refine h1 G0 H0 env σ G H { D with nx := Rss X rest D } r ?_
  unfold sSeq at w
  revert w
  cases F env with
  | nx e => exact fun w σ' G' H' r' s => h2 G0 H0 e σ' G' H' D r' (WishS.up s w)
  | rt d => exact fun w => w
  | bk e => exact fun w => w
  | ct e => exact fun w => w
  | ex c => exact fun w => w
  | stuck => exact fun w => w
theorem ss_one (h1 : SS X E st F) : SSs X E [st] F := fun G0 H0 env σ G H D r w =>
  let ⟨_, a1, a2⟩ := h1 G0 H0 env σ G H D r w
  ⟨_, pss_one a1, a2⟩
theorem ss_if (hc : ST X E c f) (ha : SSs X E sts F) (hb : SSs X E sts' F') : SS X E (.If c sts sts' pos) (sIf f F F') := by
  intro G0 H0 env σ G H D r w
  refine ⟨_, ps_if rt_pt rss_pss rss_pss, ?_⟩
  refine hc G0 H0 env σ G H _ r (out_wish r w fun d G1 H1 e1 w1 => ?_)
  cases d <;> first | exact (show False from w1).elim | skip
  rename_i k
  refine ⟨k, rfl, ?_⟩
  cases k with
  | true => exact ha G0 H0 env σ G1 H1 D (r.grow e1) w1
  | false => exact hb G0 H0 env σ G1 H1 D (r.grow e1) w1
theorem ss_asg (i : Nat) {x : Str} {p : Pos} (hN : X.N.Nodup) (ha : SE X E e f) (hi : X.N[i]? = some x := by rfl) (hx : Loc X.env.scope x := by first | exact Or.inl rfl | exact Or.inr rfl) (hs : swapsWith e (some (.Name x p)) pos.line X.env = pure false := by rfl) (hf : X.fn x = true ∨ X.env.scope.names.lookup x = some .local := by first | exact .inl rfl | exact .inr rfl) :
    SS X E (.Assign [.Name x p] e pos) (sAsg i f) := by
  intro G0 H0 env σ G H D r w
  refine ⟨_, ps_set hN hi hx re_pe hs hf, ?_⟩
  refine ha G0 H0 env σ G H _ r (out_wish r w fun d G1 H1 e1 w1 v hv => ?_)
  exact w1 _ G1 H1 ((r.grow e1).setVal hv) (Same.refl G1)
theorem own_apart {K : PySem.W.Frag} {G0 H0 : Hp} {env : En} {σ : L2.St} {G H H' : Hp} (r : Rep K G0 H0 env σ G H) {p : Addr} (hp : H p = none) : ∀ (j : Nat) (e : D) (q : Addr), env[j]? = some (.own e) → σ[j]? = some (some (.ref q)) → q ≠ p := fun j e q h1 h2 z => by
  obtain ⟨p', o, g1, g2, _⟩ := r.own j e h1
  rw [g1] at h2
  cases h2
  rw [z, hp] at g2
  cases g2
theorem own_asg {D : Ends} {G0 H0 : Hp} {env : En} {σ : L2.St} {G H : Hp} {i : Nat} (r : Rep X.K G0 H0 env σ G H) {d : Cn.D} {G1 H1 : Hp} (e1 : Ext G H G1 H1) (w1 : WishS X.mg E X.K G0 H0 G1 D (.nx (env.set i (.own d)))) {p : Addr} {o : HO} (h1 : H p = none) (h2 : H1 p = some o) (h3 : G1 p = none) (h4 : OwnR X.K G1 o d) : D.nx (σ.set i (some (.ref p))) H1 := by
  refine w1 _ G1 H1 ((r.grow e1).setOwn (fun j e q g1 g2 => own_apart (H' := H) r h1 j e q g1 g2) h2 h3 (r.ext.hh.free h1) h4) (Same.refl G1)
theorem ss_own (i : Nat) {x : Str} {p : Pos} (hN : X.N.Nodup) (ha : SF X E e f) (hi : X.N[i]? = some x := by rfl) (hx : Loc X.env.scope x := by first | exact Or.inl rfl | exact Or.inr rfl) (hs : swapsWith e (some (.Name x p)) pos.line X.env = pure false := by rfl) (hf : X.fn x = true ∨ X.env.scope.names.lookup x = some .local := by first | exact .inl rfl | exact .inr rfl) :
    SS X E (.Assign [.Name x p] e pos) (sOwn i f) := by
  intro G0 H0 env σ G H D r w
  refine ⟨_, ps_set hN hi hx re_pe hs hf, ?_⟩
  refine ha G0 H0 env σ G H _ r (out_wish r w fun d G1 H1 e1 w1 p o h1 h2 h3 h4 => ?_)
  exact own_asg r e1 w1 h1 h2 h3 h4
theorem ss_ret (ha : SE X E e f) : SS X E (.Return (some e) pos) (sRet f) := by
  intro G0 H0 env σ G H D r w
  refine ⟨_, ps_ret re_pe, ?_⟩
  refine ha G0 H0 env σ G H _ r (out_wish r w fun d G1 H1 e1 w1 v hv => ?_)
  exact w1 v G1 H1 (r.ext.trans e1) hv
theorem ss_retO (i : Nat) {x : Str} {p : Pos} (hv : PE X (.Name x p) (tVar i)) : SS X E (.Return (some (.Name x p)) pos) (sRetO i) := by
  intro G0 H0 env σ G H D r w
  refine ⟨_, ps_ret hv, ?_⟩
  unfold sRetO at w
  split at w
  · rename_i d hd
    obtain ⟨v, h1, h2⟩ := r.val i d hd
    exact ⟨v, h1, w v G H r.ext h2⟩
  · rename_i d hd
    obtain ⟨p, o, h1, h2, h3, h4, h5⟩ := r.own i d hd
    obtain ⟨r2, s2⟩ := r.freeze hd h1 h2 h3 h4 h5
    exact ⟨.ref p, h1, w _ _ H r2.ext ((h5.mono s2).rp upd_same)⟩
  · exact (show False from w).elim
theorem ss_retN : SS X E (.Return none pos) (fun _ => .rt .non) := fun G0 H0 env σ G H D r w => ⟨_, ps_retN, w .non G H r.ext .non⟩
theorem ss_pass : SS X E (.Pass pos) sNil := fun G0 H0 env σ G H D r w => ⟨_, ps_pass, w σ G H r (Same.refl G)⟩
theorem ss_never : SS X E st (fun _ => .stuck) := fun G0 H0 env σ G H D r w => (show False from w).elim
theorem ss_frz (i : Nat) (h : SSs X E sts F) : SSs X E sts (sFrz i F) := by
  intro G0 H0 env σ G H D r w
  unfold sFrz frz at w
  split at w
  · rename_i d hd
    obtain ⟨p, o, h1, h2, h3, h4, h5⟩ := r.own i d hd
    obtain ⟨r2, s2⟩ := r.freeze hd h1 h2 h3 h4 h5
    exact h G0 H0 _ σ _ H D r2 (WishS.up s2 w)
  · exact h G0 H0 env σ G H D r w
/-- an own exception class of the text -/
structure Xc (K : PySem.W.Frag) (mg : Str → Option Value) (c : Str) : Prop where
  ex : ∃ C : Addr, mg c = some (.ref C) ∧ PySem.W.excIn K C [.type "ValueError", .type "Exception", .type "BaseException", .type "object"] "ValueError.__new__" = true ∧ PySem.W.keepIn K (.ref C) = true ∧
    PySem.W.subIn K (.ref C) (.type "BaseException") = some true ∧ PySem.W.typeIn K (.ref C) = some (.type "type")
theorem ss_raise {c : Str} {m : Str} {j : Nat} {p p2 pos' : Pos} (hc : X.calm = true) (tk : L2N.Takes X (fun cls d _ H => E cls d H)) (x : Xc X.K X.mg c) (hg : Gl X c := by rfl) (hdb : (c == ("__debug__" : Str)) = false := by decide) :
    SS X E (.Raise (some (.Call (.Name c p) [.Constant (.str m) j p2] [] pos')) none pos) (sRaise c) := by
  intro G0 H0 env σ G H D r w
  obtain ⟨C, h1, h2, h3, h4, h5⟩ := x.ex
  exact ⟨_, L2N.ps_raise hc tk (L2N.pmk_own PySem.F.excBase_ValueError h2 h1 h3 (raises_own h4 h5) hg hdb), w G H C r.ext h1⟩
theorem ss_app (i : Nat) {x : Str} {apos p : Pos} (hv : PE X (.Name x p) (tVar i)) (ha : SE X E e f)
    (hbase : attributeBase (.Name x p) "append" X.env (eval (.Name x p) X.env) = eval (.Name x p) X.env := by rfl)
    (hfew : ((backTo pos (starEach [e] X.env)).all (fun x => !x.1) && (backToKw pos (keywordEach [] X.env)).all (fun x => x.1.isSome)
      && decide ([e].length + ([] : List Keyword).length + (if ([] : List Keyword).isEmpty then 0 else 1) < 30)) = true := by rfl)
    (hline : (apos.endLine == pos.line) = true := by rfl) (hs : starEach [e] X.env = (false, eval e X.env) :: starEach [] X.env := by rfl) (hplain : (backTo pos (starEach [] X.env)).any (·.1) = false := by rfl)
    {epos : Pos} (hsw : swapsWith (.Call (.Attribute (.Name x p) "append" apos) [e] [] pos) none epos.line X.env = pure false := by rfl) :
    SS X E (.Expr (.Call (.Attribute (.Name x p) "append" apos) [e] [] pos) epos) (sApp i f) := by
  intro G0 H0 env σ G H D r w
  refine ⟨_, ps_expr (pe_bm PySem.F.plainAttrs_list PySem.F.slot_list_append PySem.F.type_list_append mt_append hv (pa_cons re_pe pa_nil hs) hbase hfew hline hs hplain) hsw, ?_⟩
  unfold sApp at w
  split at w
  · rename_i ds hd
    obtain ⟨p, o, h1, h2, h3, h4, h5⟩ := r.own i _ hd
    obtain ⟨xs, rfl, h6⟩ := h5
    refine ⟨.ref p, h1, .inl ⟨rfl, xs, SqL.of h2⟩, ?_⟩
    refine ha G0 H0 env σ G H _ r (out_wish r w fun d G1 H1 e1 w1 v hv => ?_)
    have hl : ds.length < LIM := by
      by_cases q : ds.length < LIM
      · exact q
      · rw [if_neg q] at w1; exact (show False from w1).elim
    rw [if_pos hl] at w1
    have a1 : H1 p = some (.lst xs) := e1.hh _ _ h2
    have g1 : G1 p = none := e1.out h2 (fun _ z => nomatch z) h3
    refine ⟨p, xs, v, rfl, rfl, a1, lim_lt (by rw [h6.length]; exact hl), ?_⟩
    exact w1 σ G1 _ ((r.grow e1).write hd h1 a1 g1 h4 ⟨_, rfl, (h6.mono (e1.same r.sub)).append (.cons hv .nil)⟩) (Same.refl G1)
  · exact (show False from w).elim
theorem ss_ext (i : Nat) {x : Str} {apos p : Pos} (hv : PE X (.Name x p) (tVar i)) (ha : SE X E e f)
    (hbase : attributeBase (.Name x p) "extend" X.env (eval (.Name x p) X.env) = eval (.Name x p) X.env := by rfl)
    (hfew : ((backTo pos (starEach [e] X.env)).all (fun x => !x.1) && (backToKw pos (keywordEach [] X.env)).all (fun x => x.1.isSome)
      && decide ([e].length + ([] : List Keyword).length + (if ([] : List Keyword).isEmpty then 0 else 1) < 30)) = true := by rfl)
    (hline : (apos.endLine == pos.line) = true := by rfl) (hs : starEach [e] X.env = (false, eval e X.env) :: starEach [] X.env := by rfl) (hplain : (backTo pos (starEach [] X.env)).any (·.1) = false := by rfl)
    {epos : Pos} (hsw : swapsWith (.Call (.Attribute (.Name x p) "extend" apos) [e] [] pos) none epos.line X.env = pure false := by rfl) :
    SS X E (.Expr (.Call (.Attribute (.Name x p) "extend" apos) [e] [] pos) epos) (sExt i f) := by
  intro G0 H0 env σ G H D r w
  refine ⟨_, ps_expr (pe_bm PySem.F.plainAttrs_list PySem.F.slot_list_extend PySem.F.type_list_extend mt_extend hv (pa_cons re_pe pa_nil hs) hbase hfew hline hs hplain) hsw, ?_⟩
  unfold sExt at w
  split at w
  · rename_i ds hd
    obtain ⟨p, o, h1, h2, h3, h4, h5⟩ := r.own i _ hd
    obtain ⟨xs, rfl, h6⟩ := h5
    refine ⟨.ref p, h1, .inl ⟨rfl, xs, SqL.of h2⟩, ?_⟩
    refine ha G0 H0 env σ G H _ r (out_wish r w fun d G1 H1 e1 w1 v hv => ?_)
    cases d <;> first | exact (show False from w1).elim | skip
    rename_i es
    have hl : ds.length + es.length ≤ LIM := by
      by_cases q : ds.length + es.length ≤ LIM
      · exact q
      · have w2 : WishS X.mg E X.K G0 H0 G1 D (if ds.length + es.length ≤ LIM then .nx (env.set i (.own (.lst (ds ++ es)))) else .stuck) := w1
        rw [if_neg q] at w2; exact (show False from w2).elim
    have w2 : WishS X.mg E X.K G0 H0 G1 D (if ds.length + es.length ≤ LIM then .nx (env.set i (.own (.lst (ds ++ es)))) else .stuck) := w1
    rw [if_pos hl] at w2
    have a1 : H1 p = some (.lst xs) := e1.hh _ _ h2
    have g1 : G1 p = none := e1.out h2 (fun _ z => nomatch z) h3
    cases hv with
    | lst hq hr =>
      rename_i q zs
      refine ⟨p, q, xs, zs, rfl, rfl, a1, e1.sub _ _ hq, lim_le (by rw [h6.length, hr.length]; exact hl), ?_⟩
      exact w2 σ G1 _ ((r.grow e1).write hd h1 a1 g1 h4 ⟨_, rfl, (h6.mono (e1.same r.sub)).append hr⟩) (Same.refl G1)
  · exact (show False from w).elim
theorem ss_put (i : Nat) {x : Str} {p p' : Pos} (hv : PE X (.Name x p) (tVar i)) (hk : SE X E b fk) (ha : SE X E e fv)
    (hsub : ∀ v, assign (.Subscript (.Name x p) b p') X.env v = (do
      let ov ← holding [v] (eval (.Name x p) X.env)
      let iv ← holding [v, ov] (eval b X.env)
      standAt p'
      holding [v, ov, iv] (setItem ov iv v)
      release [v, ov, iv] []) := by intro _; rfl)
    (hs : swapsWithSole [.Subscript (.Name x p) b p'] e pos.line X.env = pure false := by rfl) (hw : swappedStores [.Subscript (.Name x p) b p'] e X.env = pure none := by rfl)
    (h1 : (assignEach [.Subscript (.Name x p) b p'] X.env).map (·.2) = [assign (.Subscript (.Name x p) b p') X.env] := by rfl) :
    SS X E (.Assign [.Subscript (.Name x p) b p'] e pos) (sPut i fk fv) := by
  intro G0 H0 env σ G H D r w
  refine ⟨_, ps_asg re_pe (pg_sub hv re_pe set_list hsub) hs hw h1, ?_⟩
  unfold sPut at w
  split at w
  · rename_i ds hd
    obtain ⟨p, o, h1, h2, h3, h4, h5⟩ := r.own i _ hd
    obtain ⟨xs, rfl, h6⟩ := h5
    refine ha G0 H0 env σ G H _ r (out_wish r w fun d G1 H1 e1 w1 v hv => ?_)
    refine ⟨.ref p, h1, ?_⟩
    refine hk G0 H0 env σ G1 H1 _ (r.grow e1) (out_wish (r.grow e1) w1 fun k G2 H2 e2 w2 u hu => ?_)
    cases k <;> first | exact (show False from w2).elim | skip
    rename_i n
    cases hu
    cases hm : ixN ds.length n with
    | none => simp only [hm] at w2; exact (show False from w2).elim
    | some m =>
      simp only [hm] at w2
      have a2 : H2 p = some (.lst xs) := e2.hh _ _ (e1.hh _ _ h2)
      have g2 : G2 p = none := (e1.trans e2).out h2 (fun _ z => nomatch z) h3
      refine ⟨p, xs, n, m, rfl, rfl, a2, by rw [h6.length]; exact hm, ?_⟩
      exact w2 σ G2 _ (((r.grow e1).grow e2).write hd h1 a2 g2 h4 ⟨_, rfl, (h6.mono ((e1.trans e2).same r.sub)).set (hv.mono (e2.same e1.sub)) m⟩) (Same.refl G2)
  · exact (show False from w).elim
theorem putK_set {κ : Type} [DecidableEq κ] (ks : List κ) (k : κ) : putK (ks.map fun x => (x, V.bl true)) k (V.bl true) = (addK ks k).map fun x => (x, V.bl true) := by
  unfold putK addK
  have e : ((ks.map fun x => (x, V.bl true)).any fun kv => decide (kv.1 = k)) = decide (k ∈ ks) := by
    induction ks with
    | nil => simp
    | cons a r ih =>
      rw [List.map_cons, List.any_cons, ih]
      by_cases e : a = k
      · subst e; simp
      · have : ¬ k = a := fun z => e z.symm
        simp [e, this]
  rw [e]
  by_cases h : k ∈ ks
  · rw [if_pos (decide_eq_true h), if_pos h, List.map_map]
    refine List.map_congr_left fun x hx => ?_
    show (if x = k then (x, V.bl true) else (x, V.bl true)) = _
    split <;> rfl
  · rw [if_neg (by rw [decide_eq_false h]; decide), if_neg h, List.map_append]
    rfl
theorem addK_inl (ks : List Int) (n : Int) : addK (ks.map fun k => (Sum.inl k : Key)) (Sum.inl n) = (addK ks n).map fun k => (Sum.inl k : Key) := by
  unfold addK
  have e : ((Sum.inl n : Key) ∈ ks.map fun k => (Sum.inl k : Key)) ↔ n ∈ ks := by
    rw [List.mem_map]
    exact ⟨fun ⟨a, h, e⟩ => by cases e; exact h, fun h => ⟨n, h, rfl⟩⟩
  by_cases h : n ∈ ks
  · rw [if_pos (e.mpr h), if_pos h]
  · rw [if_neg (fun z => h (e.mp z)), if_neg h, List.map_append]; rfl
theorem addK_inlT (ks : List (List Int)) (n : List Int) : addK (ks.map fun t => t.map fun k => (Sum.inl k : Key)) (n.map fun k => (Sum.inl k : Key)) = (addK ks n).map fun t => t.map fun k => (Sum.inl k : Key) := by
  unfold addK
  have e : ((n.map fun k => (Sum.inl k : Key)) ∈ ks.map fun t => t.map fun k => (Sum.inl k : Key)) ↔ n ∈ ks := by
    rw [List.mem_map]
    exact ⟨fun ⟨a, h, e⟩ => by rw [← inl_inj e]; exact h, fun h => ⟨n, h, rfl⟩⟩
  by_cases h : n ∈ ks
  · rw [if_pos (e.mpr h), if_pos h]
  · rw [if_neg (fun z => h (e.mp z)), if_neg h, List.map_append]; rfl
theorem ss_putD (i : Nat) {x : Str} {p p' p'' : Pos} {jj : Nat} (hu : X.A.units + 1 < cLine) (hv : PE X (.Name x p) (tVar i)) (hk : SE X E b fk)
    (hs : swapsWith (.Constant (.bool true) jj p'') (some (.Subscript (.Name x p) b p')) pos.line X.env = pure false := by rfl) :
    SS X E (.Assign [.Subscript (.Name x p) b p'] (.Constant (.bool true) jj p'') pos) (sPutD i fk) := by
  intro G0 H0 env σ G H D r w
  refine ⟨_, ps_dput hu hv re_pe pe_bl hs, ?_⟩
  unfold sPutD at w
  split at w
  · rename_i ks hd
    obtain ⟨p, o, h1, h2, h3, h4, h5⟩ := r.own i _ hd
    have h5' : o = .dK (ks.map fun k => ((Sum.inl k : Key), V.bl true)) := h5
    subst h5'
    refine ⟨.ref p, h1, ?_⟩
    refine hk G0 H0 env σ G H _ r (out_wish r w fun k G2 H2 e2 w2 u hu => ?_)
    cases k <;> first | exact (show False from w2).elim | skip
    rename_i n
    cases hu
    have hl : ks.length < LIM := by
      by_cases q : ks.length < LIM
      · exact q
      · simp only [if_neg q] at w2; exact (show False from w2).elim
    simp only [if_pos hl] at w2
    have a2 := e2.hh _ _ h2
    have g2 : G2 p = none := e2.out h2 (fun _ z => nomatch z) h3
    refine ⟨p, _, rfl, DPut.k (k := Sum.inl n) (v := .bl true) a2 (lim_lt (by rw [List.length_map]; exact hl)), ?_⟩
    refine w2 σ G2 _ ((r.grow e2).write hd h1 a2 g2 h4 ?_) (Same.refl G2)
    show HO.dK _ = HO.dK _
    rw [kt_of (fun k => (Sum.inl k : Key)) ks, kt_of (fun k => (Sum.inl k : Key)) (addK ks n), putK_set, addK_inl]
  · rename_i ks hd
    obtain ⟨p, o, h1, h2, h3, h4, h5⟩ := r.own i _ hd
    have h5' : o = .dT (ks.map fun t => (t.map (fun k => (Sum.inl k : Key)), V.bl true)) := h5
    subst h5'
    refine ⟨.ref p, h1, ?_⟩
    refine hk G0 H0 env σ G H _ r (out_wish r w fun k G2 H2 e2 w2 u hu => ?_)
    cases k <;> first | exact (show False from w2).elim | skip
    rename_i ts
    cases hts : toInts ts with
    | none => simp only [hts] at w2; exact (show False from w2).elim
    | some ns =>
      simp only [hts] at w2
      have f1 := toInts_eq hts
      subst f1
      have hl : ks.length < LIM := by
        by_cases q : ks.length < LIM
        · exact q
        · simp only [if_neg q] at w2; exact (show False from w2).elim
      simp only [if_pos hl] at w2
      have a2 := e2.hh _ _ h2
      have g2 : G2 p = none := e2.out h2 (fun _ z => nomatch z) h3
      cases hu with
      | tup hq hr =>
        have hr2 := hr.ints
        subst hr2
        refine ⟨p, _, rfl, DPut.t (k := ns.map fun k => (Sum.inl k : Key)) (v := .bl true) a2 (by rw [kV_map]; exact e2.sub _ _ hq) (lim_lt (by rw [List.length_map]; exact hl)), ?_⟩
        refine w2 σ G2 _ ((r.grow e2).write hd h1 a2 g2 h4 ?_) (Same.refl G2)
        show HO.dT _ = HO.dT _
        rw [kt_of (fun t : List Int => t.map fun k => (Sum.inl k : Key)) ks, kt_of (fun t : List Int => t.map fun k => (Sum.inl k : Key)) (addK ks ns), putK_set, addK_inlT]
  · exact (show False from w).elim

/-! ### targets, loops -/
def SG (X : Cx) (tg : Expr) (ga : D → En → Option En) : Prop := ∃ g : TG, PG X tg g ∧ ∀ (G0 H0 : Hp) (env : En) (σ : L2.St) (G H : Hp) (x : V) (d : D) (env' : En) (k : L2.St → Hp → Prop), Rep X.K G0 H0 env σ G H → Rp X.K G x d → ga d env = some env' →
  (∀ σ', Rep X.K G0 H0 env' σ' G H → k σ' H) → g x σ H k
theorem sg_name (j : Nat) {x : Str} {p : Pos} (hN : X.N.Nodup) (hi : X.N[j]? = some x := by rfl) (hx : Loc X.env.scope x := by first | exact Or.inl rfl | exact Or.inr rfl) (hf : X.fn x = true ∨ X.env.scope.names.lookup x = some .local := by first | exact .inl rfl | exact .inr rfl) : SG X (.Name x p) (tgN j) :=
  ⟨gName j, pg_name hN hi hx hf, fun G0 H0 env σ G H x d env' k r rx e h => by
    cases (Option.some.inj e)
    exact h _ (r.setVal rx)⟩
theorem ss_for {tg iter : Expr} {fi : AF} {ga : D → En → Option En} {body : List Stmt} (hp : PassesOwn (model X.prog X.w) X.A X.env X.xe) (hc : X.calm = true) (hi : SI X E tg iter fi) (hg : SG X tg ga) (hb : SSs X E body F) (hs : ∀ x, foldedSetIterable iter X.env x = pure x := by intro _; rfl) :
    SS X E (.For tg iter body [] pos) (sFor fi ga F) := by
  intro G0 H0 env σ G H D r w
  obtain ⟨g, hg1, hg2⟩ := hg
  refine ⟨_, ps_for hp hc ri_pi hg1 rss_pss hs, ?_⟩
  refine hi G0 H0 env σ G H _ r ?_
  unfold sFor at w
  cases hfi : fi env with
  | stuck => rw [hfi] at w; exact w
  | ex c => rw [hfi] at w; exact fun G' H' C e hc => w G' H' C (r.ext.trans e) hc
  | ok ds =>
  rw [hfi] at w
  intro G1 H1 e1 J hJ
  have w1 : WishS X.mg E X.K G0 H0 G1 D (forL ga F ds env) := WishS.up (e1.same r.sub) w
  refine ⟨fun i m σ' H' => m = ds.length - i ∧ i ≤ ds.length ∧ ∃ env' G', Rep X.K G0 H0 env' σ' G' H' ∧ Same G1 G' ∧ WishS X.mg E X.K G0 H0 G' D (forL ga F (ds.drop i) env'),
    ⟨ds.length, by omega, Nat.zero_le _, env, G1, r.grow e1, Same.refl G1, w1⟩, ?_⟩
  rintro i m σ2 H2 ⟨rfl, hi2, env2, G2, r2, s2, w2⟩
  obtain ⟨hgo, hstop⟩ := hJ i G2 H2 s2 r2.sub
  by_cases hlt : i < ds.length
  · obtain ⟨hg, hy⟩ := hgo hlt
    refine .inr ⟨hg, fun σ' H' => ∃ env' G', Rep X.K G0 H0 env' σ' G' H' ∧ Same G1 G' ∧ WishS X.mg E X.K G0 H0 G' D (forL ga F (ds.drop (i + 1)) env'),
      fun σ' H' ⟨env', G', y⟩ => ⟨ds.length - (i + 1), by omega, rfl, hlt, env', G', y⟩, fun x H3 y => ?_⟩
    obtain ⟨G3, e3, d, hd, rd⟩ := hy x H3 y
    have hdrop : ds.drop i = d :: ds.drop (i + 1) := by
      rw [List.drop_eq_getElem_cons hlt]
      rw [List.getElem?_eq_getElem hlt] at hd
      cases hd
      rfl
    rw [hdrop] at w2
    have w3 := WishS.up (e3.same r2.sub) w2
    have s3 := s2.trans (e3.same r2.sub)
    unfold forL at w3
    cases hga : ga d env2 with
    | none => simp only [hga] at w3; exact (show False from w3).elim
    | some env3 =>
      simp only [hga] at w3
      refine hg2 G0 H0 env2 σ2 G3 H3 x d env3 _ (r2.grow e3) rd hga fun σ' r3 => ?_
      refine hb G0 H0 env3 σ' G3 H3 _ r3 ?_
      cases hF : F env3 with
      | nx e => simp only [hF] at w3; exact fun σ4 G4 H4 r4 s4 => ⟨e, G4, r4, s3.trans s4, WishS.up s4 w3⟩
      | ct e => simp only [hF] at w3; exact fun σ4 G4 H4 r4 s4 => ⟨e, G4, r4, s3.trans s4, WishS.up s4 w3⟩
      | bk e => simp only [hF] at w3; exact w3
      | rt d => simp only [hF] at w3; exact w3
      | ex c => simp only [hF] at w3; exact w3
      | stuck => simp only [hF] at w3; exact w3
  · refine .inl ⟨hstop (by omega), ?_⟩
    have hdrop : ds.drop i = [] := List.drop_eq_nil_of_le (by omega)
    rw [hdrop] at w2
    exact w2 σ2 G2 H2 r2 (Same.refl G2)
theorem ss_while {body : List Stmt} (n : Nat) (hp : PassesOwn (model X.prog X.w) X.A X.env X.xe) (hc : ST X E c f) (hb : SSs X E body F) : SS X E (.While c body [] pos) (sWhile n f F) := by
  intro G0 H0 env σ G H D r w
  refine ⟨_, ps_while hp rt_pt rss_pss, ?_⟩
  refine ⟨fun m σ' H' => ∃ env' G', Rep X.K G0 H0 env' σ' G' H' ∧ Same G G' ∧ WishS X.mg E X.K G0 H0 G' D (whileF f F m env'), ⟨n, env, G, r, Same.refl G, w⟩, ?_⟩
  rintro m σ2 H2 ⟨env2, G2, r2, s2, w2⟩
  cases m with
  | zero => exact (show False from w2).elim
  | succ m =>
    unfold whileF at w2
    refine hc G0 H0 env2 σ2 G2 H2 _ r2 (out_wish r2 w2 fun d G3 H3 e3 w3 => ?_)
    cases d <;> first | exact (show False from w3).elim | skip
    rename_i k
    refine ⟨k, rfl, ?_⟩
    have s3 := s2.trans (e3.same r2.sub)
    cases k with
    | false => exact w3 σ2 G3 H3 (r2.grow e3) (Same.refl G3)
    | true =>
      rw [if_pos rfl]
      refine ⟨fun σ' H' => ∃ env' G', Rep X.K G0 H0 env' σ' G' H' ∧ Same G G' ∧ WishS X.mg E X.K G0 H0 G' D (whileF f F m env'), fun σ' H' h => ⟨m, Nat.lt_succ_self m, h⟩, ?_⟩
      refine hb G0 H0 env2 σ2 G3 H3 _ (r2.grow e3) ?_
      cases hF : F env2 with
      | nx e => simp only [hF] at w3; exact fun σ4 G4 H4 r4 s4 => ⟨e, G4, r4, s3.trans s4, WishS.up s4 w3⟩
      | ct e => simp only [hF] at w3; exact fun σ4 G4 H4 r4 s4 => ⟨e, G4, r4, s3.trans s4, WishS.up s4 w3⟩
      | bk e => simp only [hF] at w3; exact w3
      | rt d => simp only [hF] at w3; exact w3
      | ex c => simp only [hF] at w3; exact w3
      | stuck => simp only [hF] at w3; exact w3
end

/-! ### a def -/
def runF (n : Nat) (B : SFn) (args : List D) : R D := match B (args.map Sl.val ++ List.replicate (n - args.length) Sl.no) with
  | .nx _ => .ok .non
  | .rt d => .ok d
  | .ex c => .ex c
  | _ => .stuck
theorem rep_start {K : PySem.W.Frag} {G H : Hp} {N : List Str} {vs : List V} {ds : List D} (s : Same G H) (r : RpAll K G vs ds) : Rep K G H (ds.map Sl.val ++ List.replicate (N.length - ds.length) Sl.no) (L2.start N vs) G H := by
  have hl := r.length
  have get : ∀ (i : Nat) (sl : Sl), (ds.map Sl.val ++ List.replicate (N.length - ds.length) Sl.no)[i]? = some sl → (∃ d, ds[i]? = some d ∧ sl = .val d) ∨ sl = .no := fun i sl h => by
    by_cases hi : i < ds.length
    · rw [List.getElem?_append_left (by rw [List.length_map]; exact hi), List.getElem?_map, List.getElem?_eq_getElem hi] at h
      exact .inl ⟨_, List.getElem?_eq_getElem hi, (Option.some.inj h).symm⟩
    · rw [List.getElem?_append_right (by rw [List.length_map]; omega)] at h
      exact .inr (List.eq_of_mem_replicate (List.mem_of_getElem? h))
  refine ⟨?_, Ext.refl s, fun i d h => ?_, fun i d h => ?_, fun i j d e p h => ?_⟩
  · unfold L2.start
    rw [List.length_append, List.length_append, List.length_map, List.length_map, List.length_replicate, List.length_replicate, hl]
  · rcases get i _ h with ⟨d', h1, h2⟩ | h2
    · cases h2
      obtain ⟨v, h3, h4⟩ := r.get h1
      refine ⟨v, ?_, h4⟩
      have hi : i < vs.length := (List.getElem?_eq_some_iff.mp h3).1
      unfold L2.start
      rw [List.getElem?_append_left (by rw [List.length_map]; exact hi), List.getElem?_map, h3]
      rfl
    · cases h2
  · rcases get i _ h with ⟨d', h1, h2⟩ | h2 <;> cases h2
  · rcases get i _ h with ⟨d', h1, h2⟩ | h2 <;> cases h2
/-- what a def's body may lean on -/
structure OkX (X : Cx) (E : XK) (k : Nat) : Prop where
  calm : X.calm = true
  nd : X.N.Nodup
  tk : L2N.Takes X (fun cls d _ H => E cls d H)
  po : PassesOwn (model X.prog X.w) X.A X.env X.xe
  room : Room k X.A
section
variable {P : Program} {w : World} {K : PySem.W.Frag} {mg : Str → Option Value} {base : Heap}
theorem passN {X : Cx} : Passes (L2N.CX X.prog X.w) X E0 := fun _ _ _ _ _ _ _ h => by
  obtain ⟨_, _, _, _, _, _, _, _, _, _, _, _, z⟩ := h
  exact z.elim
theorem OkX.ps {X : Cx} {E : XK} {k : Nat} (O : OkX X E k) : Passes (L2N.CX X.prog X.w) X E := L2N.passes_call O.tk fun _ _ _ _ h => h
theorem OkX.u {X : Cx} {E : XK} {k : Nat} (O : OkX X E k) : X.A.units < cLine := O.room.units0
theorem OkX.u1 {X : Cx} {E : XK} {k : Nat} (O : OkX X E k) : X.A.units + 1 < cLine := by have := O.room.units; omega
theorem OkX.u64 {X : Cx} {E : XK} {k : Nat} (O : OkX X E k) : X.A.units + 64 < cLine := O.room.units
theorem OkX.u65 {X : Cx} {E : XK} {k : Nat} (O : OkX X E k) : X.A.units + 65 < cLine := by have := O.room.un; omega
theorem fn_ok {x qual : Str} {st : Stmt} {f : Addr} {fd : FuncData} {N ps : List Str} {k : Nat} {B : SFn} (F : Fun K x qual st f fd) (S : FnScope N ps (defScope st))
    (body : ∀ (cdv : Value) (A : Around) (outer : List Env) (s : Shared) (H : Hp) (E : XK), OkX (cxOf (L2N.CX P w) P w K mg base N qual (defScope st) f cdv A outer s H E) E k →
      SSs (cxOf (L2N.CX P w) P w K mg base N qual (defScope st) f cdv A outer s H E) E (defBody st) B) :
    FnOk P w K mg base (L2N.CX P w) (k + 1) f fd ps (spOf K mg ps.length (runF N.length B)) := by
  obtain ⟨oc, od, kV, doc, pm, an, cdv, ct, osl, rfl, lk, hcd⟩ := F.ex
  refine fn_of lk hcd S (fun vs H Q E h => h.1) (fun A outer s H vs Q E hr h => ?_)
  obtain ⟨hl, G, ds, hs, hv, hw⟩ := h
  have O : OkX (cxOf (L2N.CX P w) P w K mg base N qual (defScope st) f cdv A outer s H E) E k := ⟨rfl, S.nd, L2N.takes_of rfl rfl rfl rfl, passes_of rfl, hr⟩
  refine body cdv A outer s H E O G H (ds.map Sl.val ++ List.replicate (N.length - ds.length) Sl.no) (L2.start N vs) G H { nx := fun _ H' => Q .non H', rt := Q } (rep_start hs hv) ?_
  unfold runF at hw
  revert hw
  cases B (ds.map Sl.val ++ List.replicate (N.length - ds.length) Sl.no) with
  | nx e => exact fun hw σ' G' H' r s => hw G' H' r.ext _ .non
  | rt d => exact fun hw v G' H' e hv => hw G' H' e v hv
  | ex c => exact fun hw G' H' C e hc => hw G' H' C e hc
  | bk e => exact fun hw => (show False from hw).elim
  | ct e => exact fun hw => (show False from hw).elim
  | stuck => exact fun hw => hw
end
end Cn

namespace Cn
open PySem PySem.Spec PyProof.Rows L2
section
variable {X : Cx} {E : XK} {elt iter : Expr} {ifs : List Expr} {fi : AF} {t e : EF} {scope : Scope} {j i : Nat} {x y : Str} {pos p py spos : Pos}
def lcT (X : Cx) (scope : Scope) (ifs : List Expr) : TT := fun σ H Q => ∀ s H' C cl fp, ∃ tt : TT, PTs (X.blk s H' scope (compEnvC scope cl C X.env) fp) ifs tt ∧ tt σ H Q
def lcE (X : Cx) (scope : Scope) (elt : Expr) : TE := fun σ H Q => ∀ s H' C cl fp, Re (X.blk s H' scope (compEnvC scope cl C X.env) fp) elt σ H Q
/-- y = [..] on one line, y a plain local -/
theorem ss_asgLc (i : Nat) (hcalm : X.calm = true) (hN : X.N.Nodup) (hi : SI X E (.Name x p) iter fi) (ok : BlkOk X.N X.env.scope scope [(x, j)]) (hg : ∀ s H C cl fp, PG (X.blk s H scope (compEnvC scope cl C X.env) fp) (.Name x p) (gName j))
    (ht : ∀ s H C cl fp, STs (X.blk s H scope (compEnvC scope cl C X.env) fp) ifs t) (he : ∀ s H C cl fp, SE (X.blk s H scope (compEnvC scope cl C X.env) fp) E0 elt e)
    (hsw : swapsWith (.ListComp elt [⟨.Name x p, iter, ifs, 0⟩] scope pos) (some (.Name y py)) spos.line X.env = pure true) (hy : X.N[i]? = some y := by rfl) (hyl : X.env.scope.names.lookup y = some .local := by rfl)
    (hs : ∀ x, foldedSetIterable iter X.env x = pure x := by intro _; rfl) :
    SS X E (.Assign [.Name y py] (.ListComp elt [⟨.Name x p, iter, ifs, 0⟩] scope pos) spos) (sAsg i (eComp fi j t e)) := by
  intro G0 H0 env σ G H D r w
  refine ⟨_, ps_setLc (own := [(x, j)]) (tt := lcT X scope ifs) (te := lcE X scope elt) hcalm hN hy hyl hsw ri_pi ok hg (fun s Hb C cl fp => ⟨fun pins s' σ' H' Q' I h => ?_⟩) (fun s Hb C cl fp => ⟨fun pins s' σ' H' Q' I h => ?_⟩) hs, ?_⟩
  · obtain ⟨tt, h1, h2⟩ := h s Hb C cl fp
    exact h1.run pins s' σ' H' Q' I h2
  · exact re_pe.run pins s' σ' H' Q' I (h s Hb C cl fp)
  · refine lc_walk (E := E) hi ht he G0 H0 env σ G H _ r ?_
    refine out_wish r w fun d G1 H1 e1 w1 p o h1 h2 h3 h4 => ?_
    have sg : Same G1 (upd G1 p o) := Same.upd h3
    have e2 : Ext G H (upd G1 p o) H1 := ⟨fun a u q => by
        by_cases z : a = p
        · subst z; rw [upd_same] at q; rw [h2]; exact q
        · rw [upd_ne z] at q; exact e1.sub a u q, e1.hh, fun a hn ha => by
        rw [upd_ne (fun z => ha (by rw [z]; exact h1))]; exact e1.gg a hn ha, e1.sm.trans sg⟩
    exact w1 _ _ H1 ((r.grow e2).setVal ((h4.mono sg).rp upd_same)) sg
theorem ss_ownLc (i : Nat) (hcalm : X.calm = true) (hN : X.N.Nodup) (hi : SI X E (.Name x p) iter fi) (ok : BlkOk X.N X.env.scope scope [(x, j)]) (hg : ∀ s H C cl fp, PG (X.blk s H scope (compEnvC scope cl C X.env) fp) (.Name x p) (gName j))
    (ht : ∀ s H C cl fp, STs (X.blk s H scope (compEnvC scope cl C X.env) fp) ifs t) (he : ∀ s H C cl fp, SE (X.blk s H scope (compEnvC scope cl C X.env) fp) E0 elt e)
    (hsw : swapsWith (.ListComp elt [⟨.Name x p, iter, ifs, 0⟩] scope pos) (some (.Name y py)) spos.line X.env = pure true) (hy : X.N[i]? = some y := by rfl) (hyl : X.env.scope.names.lookup y = some .local := by rfl)
    (hs : ∀ x, foldedSetIterable iter X.env x = pure x := by intro _; rfl) :
    SS X E (.Assign [.Name y py] (.ListComp elt [⟨.Name x p, iter, ifs, 0⟩] scope pos) spos) (sOwn i (eComp fi j t e)) := by
  intro G0 H0 env σ G H D r w
  refine ⟨_, ps_setLc (own := [(x, j)]) (tt := lcT X scope ifs) (te := lcE X scope elt) hcalm hN hy hyl hsw ri_pi ok hg (fun s Hb C cl fp => ⟨fun pins s' σ' H' Q' I h => ?_⟩) (fun s Hb C cl fp => ⟨fun pins s' σ' H' Q' I h => ?_⟩) hs, ?_⟩
  · obtain ⟨tt, h1, h2⟩ := h s Hb C cl fp
    exact h1.run pins s' σ' H' Q' I h2
  · exact re_pe.run pins s' σ' H' Q' I (h s Hb C cl fp)
  · refine lc_walk (E := E) hi ht he G0 H0 env σ G H _ r ?_
    refine out_wish r w fun d G1 H1 e1 w1 p o h1 h2 h3 h4 => ?_
    exact own_asg r e1 w1 h1 h2 h3 h4
/-- chained comparison -/
theorem se_chain {a b c : Expr} {f g h : EF} {op op' : CmpOp} {o o' : D → D → R D} (ho : OS X E (compareOp op) o) (ho' : OS X E (compareOp op') o') (ha : SB X E a f) (hb : SB X E b g) (hc : SB X E c h)
    (hm : lastMarks [op, op'] [b, c] = false := by with_unfolding_all rfl) : SE X E (.Compare a [op, op'] [b, c] pos) (eChain o o' f g h) := by
  intro G0 H0 env σ G H Q r w
  unfold eChain at w
  have w1 := Wish.bind w
  cases hf : f env with
  | stuck => rw [hf] at w1; exact (show False from w1).elim
  | ex c' =>
    refine ⟨_, pe_chain opr_false opr_false re_pe re_pe re_pe hm, ?_⟩
    refine ha G0 H0 env σ G H _ r ?_
    rw [hf] at w1 ⊢
    exact w1
  | ok dx =>
    rw [hf] at w1
    cases hg : g env with
    | stuck =>
      have w3 := Wish.bind (w1 G H (Ext.refl r.sub))
      rw [hg] at w3
      exact (show False from w3).elim
    | ex c' =>
      refine ⟨_, pe_chain opr_false opr_false re_pe re_pe re_pe hm, ?_⟩
      refine ha G0 H0 env σ G H _ r ?_
      rw [hf]
      intro G1 H1 e1 x bx
      refine hb G0 H0 env σ G1 H1 _ (r.grow e1) ?_
      have w3 := Wish.bind (w1 G1 H1 e1)
      rw [hg] at w3 ⊢
      exact w3
    | ok dy =>
      obtain ⟨r1, h1, k1⟩ := ho dx dy
      cases hh : h env with
      | stuck =>
        refine ⟨_, pe_chain h1 opr_false re_pe re_pe re_pe hm, ?_⟩
        refine ha G0 H0 env σ G H _ r ?_
        rw [hf]
        intro G1 H1 e1 x bx
        refine hb G0 H0 env σ G1 H1 _ (r.grow e1) ?_
        have w3 := Wish.bind (w1 G1 H1 e1)
        rw [hg] at w3 ⊢
        intro G2 H2 e2 y by'
        refine k1 G2 H2 x y _ e2.sub (bx.ext e1.sub e2) by' ((Wish.bind (w3 G2 H2 e2)).imp fun z G3 H3 e3 q v hv => ?_)
        cases z <;> first | exact (show False from q).elim | skip
        rename_i k
        cases hv
        refine ⟨k, rfl, ?_⟩
        cases k with
        | false => exact q G3 H3 (Ext.refl e3.sub) _ (.bl _)
        | true =>
          have q' := Wish.bind q
          rw [hh] at q'
          exact (show False from q').elim
      | ex c' =>
        refine ⟨_, pe_chain h1 opr_false re_pe re_pe re_pe hm, ?_⟩
        refine ha G0 H0 env σ G H _ r ?_
        rw [hf]
        intro G1 H1 e1 x bx
        refine hb G0 H0 env σ G1 H1 _ (r.grow e1) ?_
        have w3 := Wish.bind (w1 G1 H1 e1)
        rw [hg] at w3 ⊢
        intro G2 H2 e2 y by'
        refine k1 G2 H2 x y _ e2.sub (bx.ext e1.sub e2) by' ((Wish.bind (w3 G2 H2 e2)).imp fun z G3 H3 e3 q v hv => ?_)
        cases z <;> first | exact (show False from q).elim | skip
        rename_i k
        cases hv
        refine ⟨k, rfl, ?_⟩
        cases k with
        | false => exact q G3 H3 (Ext.refl e3.sub) _ (.bl _)
        | true =>
          refine hc G0 H0 env σ G3 H3 _ (((r.grow e1).grow e2).grow e3) ?_
          have q' := Wish.bind q
          rw [hh] at q' ⊢
          exact q'
      | ok dz =>
        obtain ⟨r2, h2, k2⟩ := ho' dy dz
        refine ⟨_, pe_chain h1 h2 re_pe re_pe re_pe hm, ?_⟩
        refine ha G0 H0 env σ G H _ r ?_
        rw [hf]
        intro G1 H1 e1 x bx
        refine hb G0 H0 env σ G1 H1 _ (r.grow e1) ?_
        have w3 := Wish.bind (w1 G1 H1 e1)
        rw [hg] at w3 ⊢
        intro G2 H2 e2 y by'
        refine k1 G2 H2 x y _ e2.sub (bx.ext e1.sub e2) by' ((Wish.bind (w3 G2 H2 e2)).imp fun z G3 H3 e3 q v hv => ?_)
        cases z <;> first | exact (show False from q).elim | skip
        rename_i k
        cases hv
        refine ⟨k, rfl, ?_⟩
        cases k with
        | false => exact q G3 H3 (Ext.refl e3.sub) _ (.bl _)
        | true =>
          refine hc G0 H0 env σ G3 H3 _ (((r.grow e1).grow e2).grow e3) ?_
          have q' := Wish.bind q
          rw [hh] at q' ⊢
          intro G4 H4 e4 z hz
          exact k2 G4 H4 y z _ e4.sub ((by'.ext e2.sub e3).ext e3.sub e4) hz (q' G4 H4 e4)
end

/-! ### the end of a law -/
def spLaw (K : PySem.W.Frag) : Sp := fun vs H Q _ => ∃ (a : Addr) (ns : List Int), vs = [.ref a] ∧ SqL K H a (ns.map V.int) ∧ ns.length ≤ 63 ∧ ∀ H', Q (.bl true) H'
theorem law_of {P : Program} {w : World} {K : PySem.W.Frag} {mg : Str → Option Value} {base : Heap} {k : Nat} {f : Addr} {fd : FuncData} {fn : List D → R D} (F : FnOk P w K mg base (L2N.CX P w) k f fd ["script"] (spOf K mg 1 fn)) (h : ∀ ns : List Int, ns.length ≤ 63 → fn [.scr ns] = .ok (.bl true)) :
    FnOk P w K mg base (L2N.CX P w) k f fd ["script"] (spLaw K) := F.imp fun vs H Q E ⟨a, ns, e, hs, hl, q⟩ => by
  subst e
  refine ⟨rfl, H, [.scr ns], Same.refl H, .cons (.scr hs) .nil, ?_⟩
  rw [h ns hl]
  intro G' H' e v hv
  cases hv
  exact q H'
theorem fz_of {P : Program} {w : World} {K : PySem.W.Frag} {mg : Str → Option Value} {base : Heap} {k n : Nat} {x : Str} {f : Addr} {fd : FuncData} {ps : List Str} {fn : List D → R D} (hl : ps.length = n) (hm : mg x = some (.ref f)) (hk : PySem.W.keepIn K (.ref f) = true) (hb : Binds K fd ps []) (F : FnOk P w K mg base (L2N.CX P w) k f fd ps (spOf K mg ps.length fn)) : Fz P w K mg base k x n fn :=
  ⟨f, fd, ps, hl, hm, hk, hb, by rw [← hl]; exact F⟩
theorem fz_stuck {P : Program} {w : World} {K : PySem.W.Frag} {mg : Str → Option Value} {base : Heap} {k n : Nat} {x : Str} {f : Addr} {fd : FuncData} {ps : List Str} (hl : ps.length = n) (hm : mg x = some (.ref f)) (hk : PySem.W.keepIn K (.ref f) = true) (hb : Binds K fd ps []) : Fz P w K mg base k x n (fun _ => .stuck) := by
  have no : ∀ vs H Q E, ¬ spOf K mg n (fun _ => .stuck) vs H Q E := fun vs H Q E ⟨_, _, _, _, _, h⟩ => h
  exact ⟨f, fd, ps, hl, hm, hk, hb, fun vs H Q E h => absurd h (no vs H Q E), fun A outer s H args us vs Q E _ _ _ _ h => absurd h (no vs H Q E)⟩
theorem cx_end {P : Program} {w : World} {H : Hp} {s : Shared} {e : Value} {s' : Shared} : L2N.CX P w [] H s (fun _ _ _ => False) e s' → False := fun h => by
  obtain ⟨_, _, _, _, _, _, _, _, _, _, _, _, z⟩ := h
  exact z
end Cn

namespace Cn
open PySem PySem.Spec PyProof.Rows L2
def sExpr (f : EF) : SFn := fun env => rOut (f env) fun _ => .nx env
def lowerD : D → R D
  | .int i => if i = 256 then .ok (.int 16) else if i = 16 then .ok (.int 4) else if i = 4 then .ok (.int 2) else if i = 2 then .ok (.int 1) else .stuck
  | _ => .stuck
def lowerEs (t1 t2 t3 t4 u1 u2 u3 u4 : Tok) : Array DictEntry := #[⟨256, .int 256 t1, .int 16 u1⟩, ⟨16, .int 16 t2, .int 4 u2⟩, ⟨4, .int 4 t3, .int 2 u3⟩, ⟨2, .int 2 t4, .int 1 u4⟩]
structure LowerOk (K : PySem.W.Frag) (mg : Str → Option Value) : Prop where
  ex : ∃ (a : Addr) (n : Nat) (t1 t2 t3 t4 u1 u2 u3 u4 : Tok), mg "LOWER" = some (.ref a) ∧ K.lookup a = some ⟨.type "dict", none, .dict (lowerEs t1 t2 t3 t4 u1 u2 u3 u4) n, #[]⟩
section
variable {X : Cx} {E : XK} {e a b c : Expr} {f g h : EF} {pos p : Pos}
theorem ss_expr (ha : SE X E e f) (hs : swapsWith e none pos.line X.env = pure false := by rfl) : SS X E (.Expr e pos) (sExpr f) := by
  intro G0 H0 env σ G H D r w
  refine ⟨_, ps_expr re_pe hs, ?_⟩
  refine ha G0 H0 env σ G H _ r (out_wish r w fun d G1 H1 e1 w1 v hv => ?_)
  exact w1 σ G1 H1 (r.grow e1) (Same.refl G1)
theorem lower_map {w : World} {prog : Program} {h : Heap} {a : Addr} {n : Nat} {t1 t2 t3 t4 u1 u2 u3 u4 : Tok} (hl : h.get? a = some ⟨.type "dict", none, .dict (lowerEs t1 t2 t3 t4 u1 u2 u3 u4) n, #[]⟩) :
    h.MapOf (intKind prog w) a (fun k => findBy Value.isInt (lowerEs t1 t2 t3 t4 u1 u2 u3 u4) k) := by
  refine ⟨_, _, n, hl, ⟨rfl, rfl, rfl⟩, rfl, fun e he => ?_, fun _ => rfl⟩
  have he' : e ∈ ([⟨256, .int 256 t1, .int 16 u1⟩, ⟨16, .int 16 t2, .int 4 u2⟩, ⟨4, .int 4 t3, .int 2 u3⟩, ⟨2, .int 2 t4, .int 1 u4⟩] : List DictEntry) := Array.mem_toList_iff.mpr he
  simp only [List.mem_cons, List.not_mem_nil, or_false] at he'
  rcases he' with rfl | rfl | rfl | rfl
  · exact ⟨256, intKind_is prog w 256 t1, by first | rfl | decide +kernel⟩
  · exact ⟨16, intKind_is prog w 16 t2, by first | rfl | decide +kernel⟩
  · exact ⟨4, intKind_is prog w 4 t3, by first | rfl | decide +kernel⟩
  · exact ⟨2, intKind_is prog w 2 t4, by first | rfl | decide +kernel⟩
theorem lower_find {t1 t2 t3 t4 u1 u2 u3 u4 : Tok} {i j : Int} (h : lowerD (.int i) = .ok (.int j)) : ∃ t, findBy Value.isInt (lowerEs t1 t2 t3 t4 u1 u2 u3 u4) i = some (.int j t) := by
  unfold lowerD at h
  dsimp only at h
  by_cases h1 : i = 256
  · subst h1
    rw [if_pos rfl] at h
    cases h
    exact ⟨u1, by simp [findBy, lowerEs, Value.isInt]⟩
  · by_cases h2 : i = 16
    · subst h2
      rw [if_neg (by decide), if_pos rfl] at h
      cases h
      exact ⟨u2, by simp [findBy, lowerEs, Value.isInt]⟩
    · by_cases h3 : i = 4
      · subst h3
        rw [if_neg (by decide), if_neg (by decide), if_pos rfl] at h
        cases h
        exact ⟨u3, by simp [findBy, lowerEs, Value.isInt]⟩
      · by_cases h4 : i = 2
        · subst h4
          rw [if_neg (by decide), if_neg (by decide), if_neg (by decide), if_pos rfl] at h
          cases h
          exact ⟨u4, by simp [findBy, lowerEs, Value.isInt]⟩
        · rw [if_neg h1, if_neg h2, if_neg h3, if_neg h4] at h
          cases h
theorem lower_int {i : Int} : (∃ j, lowerD (.int i) = .ok (.int j)) ∨ lowerD (.int i) = .stuck := by
  unfold lowerD
  dsimp only
  repeat' split
  all_goals first | exact .inr rfl | exact .inl ⟨_, rfl⟩
def rLower (K : PySem.W.Frag) : L2.R2 := fun x y H Q => ∃ (p : Addr) (i j : Int) (n : Nat) (t1 t2 t3 t4 u1 u2 u3 u4 : Tok), x = .ref p ∧ y = .int i ∧ K.lookup p = some ⟨.type "dict", none, .dict (lowerEs t1 t2 t3 t4 u1 u2 u3 u4) n, #[]⟩ ∧ lowerD (.int i) = .ok (.int j) ∧ Q (.int j) H
theorem ix_lower : IxR X (rLower X.K) := by
  intro value slice pins s σ H x y v u Q I rx ry h hs
  obtain ⟨p, i, j, n, t1, t2, t3, t4, u1, u2, u3, u4, rfl, rfl, hl, hj, q⟩ := h
  obtain rfl : v = Value.ref p := rx
  obtain ⟨t, rfl⟩ := ry
  have hm := lower_map (w := X.w) (prog := X.prog) (I.kIn _ _ hl)
  obtain ⟨tj, hf⟩ := lower_find (t1 := t1) (t2 := t2) (t3 := t3) (t4 := t4) (u1 := u1) (u2 := u2) (u3 := u3) (u4 := u4) hj
  exact tail_any hm.typeIs slot_dict_getitem.lookup (wpAny_getItem_of (intKind_is X.prog X.w i t) hm hf ⟨.int j, H, I.tok _, ⟨tj, rfl⟩, q⟩) hs
theorem se_lower (L : LowerOk X.K X.mg) (hb : SB X E b g) (hg : Gl X "LOWER" := by rfl) (hs : PlainIx b := by exact fun _ _ => rfl) : SE X E (.Subscript (.Name "LOWER" p) b pos) (eUn lowerD g) := by
  obtain ⟨aL, n, t1, t2, t3, t4, u1, u2, u3, u4, hm, hl⟩ := L.ex
  intro G0 H0 env σ G H Q r w
  refine ⟨_, pe_ix ix_lower (pe_glob (v := .ref aL) hg hm rfl) re_pe hs, ?_⟩
  show Re X b σ H (fun y H2 => rLower X.K (.ref aL) y H2 Q)
  refine hb G0 H0 env σ G H _ r ((Wish.bind w).imp fun d G1 H1 e1 q v hv => ?_)
  cases d <;> first | exact (show False from q).elim | skip
  rename_i i
  cases hv.int
  rcases lower_int (i := i) with ⟨j, hj⟩ | hj
  · rw [hj] at q
    exact ⟨aL, i, j, n, t1, t2, t3, t4, u1, u2, u3, u4, rfl, rfl, hl, hj, q G1 H1 (Ext.refl e1.sub) _ (.int _)⟩
  · rw [hj] at q
    exact (show False from q).elim
end
end Cn

namespace Cn
open PySem PySem.Spec PyProof.Rows L2
section
variable {X : Cx} {E : XK}
/-- forget a variable -/
def sDrop (i : Nat) (F : SFn) : SFn := fun env => F (env.set i .no)
theorem sDrop_a {i : Nat} {F : SFn} {env : En} : sDrop i F env = F (env.set i .no) := rfl
theorem ss_drop {sts : List Stmt} {F : SFn} (i : Nat) (h : SSs X E sts F) : SSs X E sts (sDrop i F) := by
  intro G0 H0 env σ G H D r w
  have r2 := r.setNo (i := i) (u := (σ[i]?).getD none)
  have e : σ.set i ((σ[i]?).getD none) = σ := by
    apply List.ext_getElem?
    intro j
    rw [List.getElem?_set]
    split
    · rename_i hij
      subst hij
      split
      · rename_i hl
        rw [List.getElem?_eq_getElem hl]; rfl
      · rename_i hl
        rw [List.getElem?_eq_none (by omega)]
    · rfl
  rw [e] at r2
  exact h G0 H0 _ σ G H D r2 w
end
end Cn

namespace Cn
open PySem PySem.Spec PyProof.Rows L2
def prD (p : Int × Int) : D := .tup [.int p.1, .int p.2]
def toPr : D → Option (Int × Int)
  | .tup [.int a, .int b] => some (a, b)
  | _ => none
def toPrs : List D → Option (List (Int × Int))
  | [] => some []
  | d :: r => match toPr d with
    | some p => (toPrs r).map (p :: ·)
    | none => none
theorem toPr_eq {d : D} {p : Int × Int} (h : toPr d = some p) : d = prD p := by
  unfold toPr at h
  split at h
  · cases h; rfl
  · cases h
/-- not below -/
def leP (p q : Int × Int) : Bool := !SrtO.lexB q p
theorem leP_iff {p q : Int × Int} : leP p q = true ↔ p.1 < q.1 ∨ p.1 = q.1 ∧ p.2 ≤ q.2 := by
  unfold leP
  rw [Bool.not_eq_true', SrtO.lexB_no]
  omega
/-- keys that are pairs -/
def kPrs : List (List Int) → Option (List (Int × Int))
  | [] => some []
  | [a, b] :: r => (kPrs r).map ((a, b) :: ·)
  | _ :: _ => none
theorem kPrs_eq : ∀ {ks : List (List Int)} {ps : List (Int × Int)}, kPrs ks = some ps → ks = ps.map fun p => [p.1, p.2]
  | [], ps, h => by cases h; rfl
  | [a, b] :: r, ps, h => by
    obtain ⟨qs, hq, rfl⟩ := Option.map_eq_some_iff.mp h
    rw [kPrs_eq hq]; rfl
  | [] :: _, _, h => by cases h
  | [_] :: _, _, h => by cases h
  | (_ :: _ :: _ :: _) :: _, _, h => by cases h
def sortD : D → R D
  | .lst ds => match toPrs ds with
    | some ps => .ok (.lst ((ps.mergeSort leP).map prD))
    | none => .stuck
  | .dctT ks => match kPrs ks with
    | some ps => .ok (.lst ((ps.mergeSort leP).map prD))
    | none => .stuck
  | _ => .stuck
/-- the pair that a value stands for -/
def keyV (H : Hp) : V → Int × Int
  | .ref t => match H t with
    | some (.tup [.int a, .int b]) => (a, b)
    | _ => (0, 0)
  | _ => (0, 0)
theorem pairs_of {K : PySem.W.Frag} {G H : Hp} (s : Same G H) : ∀ {xs : List V} {ds : List D} {ps : List (Int × Int)}, RpAll K G xs ds → toPrs ds = some ps →
    (∀ x ∈ xs, (∃ t, x = .ref t ∧ H t = some (.tup [.int (keyV H x).1, .int (keyV H x).2])) ∧ Rp K G x (prD (keyV H x))) ∧ xs.map (keyV H) = ps
  | _, _, ps, .nil, h => by cases h; exact ⟨fun x hx => (by cases hx), rfl⟩
  | _, _, ps, .cons (v := v) (d := d) hv hr, h => by
    unfold toPrs at h
    split at h
    · rename_i p hp
      have hd := toPr_eq hp
      subst hd
      obtain ⟨qs, hq, rfl⟩ := Option.map_eq_some_iff.mp h
      obtain ⟨i1, i2⟩ := pairs_of s hr hq
      cases hv with
      | tup e r =>
        cases r with
        | cons ra r =>
          cases r with
          | cons rb r =>
            cases r
            cases ra
            cases rb
            rename_i a
            have hk : keyV H (.ref a) = p := by
              have e' := s _ _ e
              simp only [keyV, e']
            refine ⟨fun x hx => ?_, by rw [List.map_cons, hk, i2]⟩
            rcases List.mem_cons.mp hx with rfl | hx
            · rw [hk]
              exact ⟨⟨a, rfl, s _ _ e⟩, .tup e (.cons (.int _) (.cons (.int _) .nil))⟩
            · exact i1 x hx
    · cases h
theorem rp_map {K : PySem.W.Frag} {G : Hp} {f : V → D} : ∀ {ys : List V}, (∀ y ∈ ys, Rp K G y (f y)) → RpAll K G ys (ys.map f)
  | [], _ => .nil
  | y :: r, h => .cons (h y (List.mem_cons_self ..)) (rp_map fun z hz => h z (List.mem_cons_of_mem _ hz))
/-! ### sorted of a dict whose keys are pairs -/
def RawD (h : Heap) (d : Addr) (es : Array DictEntry) (ep : Nat) : Prop := ∃ o, h.get? d = some o ∧ o.ExactDict ∧ o.data = .dict es ep
theorem walks_keys {P : Program} {w : World} {A : Around} (hh : A.handled = none) (it d : Addr) (hne : d ≠ it) (es : Array DictEntry) (ep : Nat) :
    PySem.Walks P w A it [it, d] [it] es.size (fun i v => ∃ e, es[i]? = some e ∧ v = e.key) (fun i h => h.IsKeyIter it d i es.size ep ∧ RawD h d es ep) where
  sub := fun b hb => List.mem_singleton.mp hb ▸ List.mem_cons_self
  frame := fun i h h' ⟨q1, o, q2, q3⟩ k => ⟨q1.at fun o z => k it List.mem_cons_self o z, o, k d (List.mem_cons_of_mem _ List.mem_cons_self) o q2, q3⟩
  item := fun i s Q E hi ⟨q1, o, q2, q3, q4⟩ hQ => by
    have hx : es[i]? = some es[i] := Array.getElem?_eq_getElem hi
    refine next_key_item q1 q2 q4 rfl hx fun h' z1 z2 => ?_
    exact hQ _ h' s.toks ⟨_, hx, rfl⟩ ⟨z1, o, (z2.2 d hne).trans q2, q3, q4⟩ fun b u hb z => (z2.2 b fun y => hb (y ▸ List.mem_cons_self)).trans z
  done := fun s Q E ⟨q1, o, q2, q3, q4⟩ hQ => next_key_end hh q1 q2 q4 rfl (Nat.le_refl _) fun h' z => hQ h' s.toks fun b u hb y => z b u (fun y => hb (y ▸ List.mem_cons_self)) y
  self := fun i s Q E ⟨q1, _⟩ hQ => wpAny_pyIter_keyiter q1 hQ
theorem src_keys {P : Program} {w : World} {d : Addr} (hd : (d == sysModules) = false) (es : Array DictEntry) (ep : Nat) : PySem.W.KdlSrc P w "dict" d d es.size (fun i v => ∃ e, es[i]? = some e ∧ v = e.key) (fun h => RawD h d es ep) where
  type := fun s ⟨o, q1, q2, _⟩ => ⟨o, q1, q2.1⟩
  there := fun h ⟨o, q1, _⟩ => ⟨Heap.lt_size q1, Heap.lt_size q1⟩
  keep := fun h h' ⟨o, q1, q2⟩ k => ⟨o, k d (.inl rfl) o q1, q2⟩
  notList := by decide
  notTuple := by decide
  hint := fun A E s Q ⟨o, q1, q2, _⟩ hq => PySem.W.kdl_hint_dict ⟨o, q1, q2.1⟩ hq
  iter := fun A s hh ⟨o, q1, q2, q3⟩ => ⟨_, _, fun E Q hq => iter_keys hd q1 q2 q3 hq, walks_keys hh _ d (Nat.ne_of_lt (Heap.lt_size q1)) es ep, ⟨_, Heap.get?_push_size _ rfl, rfl, rfl⟩, o, Heap.get?_push_of_some _ q1, q2, q3⟩
theorem dT_keys {X : Cx} {pins : List (Addr × Obj)} {σ : L2.St} {H : Hp} {s : Shared} {d : Addr} {kvs : List (List Key × V)} (I : Inv X pins σ H s) (h : H d = some (.dT kvs)) : (d == sysModules) = false ∧ kvs.length ≤ sizeLine ∧ ∃ (es : Array DictEntry) (ep : Nat), RawD s.heap d es ep ∧ es.size = kvs.length ∧
    ∀ (i : Nat) (k : List Key) (v : V), kvs[i]? = some (k, v) → ∃ (en : DictEntry) (q : Addr), es[i]? = some en ∧ en.key = .ref q ∧ H q = some (.tup (k.map kV)) := by
  obtain ⟨z, hs, xs, pr, o, es, ep, ho, hx, hdt, he, _⟩ := I.hok d _ h
  refine ⟨hs, z, es, ep, ⟨o, ho, hx, hdt⟩, ?_, fun i k v e => ?_⟩
  · have l1 : es.size = xs.length := size_of_entries he
    have l2 : kvs.length = xs.length := Paired.length pr
    omega
  · obtain ⟨b, hb, e1, e2, _⟩ := paired_get pr e
    have q := entry_at he i
    rw [hb] at q
    exact ⟨_, b.2.1, q, rfl, e2⟩
def keyB (H : Hp) (u : Value) : Int × Int := keyV H (backV u)
def rSortT : List V → Hp → VK → Prop := fun vs H Q => ∃ (a : Addr) (ps : List (Int × Int)), vs = [.ref a] ∧ H a = some (.dT (ps.map fun p => ([(Sum.inl p.1 : Key), Sum.inl p.2], V.bl true))) ∧
  ∀ (xs ys : List V) (p : Addr), xs.map (keyV H) = ps → (∀ x ∈ xs, ∃ t, x = .ref t ∧ H t = some (.tup [.int (keyV H x).1, .int (keyV H x).2])) → SrtO.Srtd (ltP (keyV H)) ys → SrtO.Stb (ltP (keyV H)) ys xs → H p = none → Q (.ref p) (upd H p (.lst ys))
theorem cr_sortT {X : Cx} (hc : X.calm = true) : CallR X (.builtin "sorted") rSortT := by
  intro pins s σ H xs us Q I r q
  obtain ⟨a, ps, rfl, hH, q⟩ := q
  obtain ⟨u, rfl, ru⟩ := vals1 r
  obtain rfl : u = Value.ref a := ru
  obtain ⟨h1, h2, es, ep, h3, h4, h5⟩ := dT_keys I hH
  rw [List.length_map] at h2 h4
  refine Calls.call_function_entry PyProof.Rows.kind_sorted PyProof.Rows.plain_sorted PyProof.Rows.entry_sorted (PyProof.Rows.args_sorted1 _) ?_
  unfold Builtin.«sorted»
  refine wpAny_bind (m := checkCount "sorted" 1 1 _) (wpAny_pure (wpAny_bind (PySem.W.kdu_collect (A := X.A.in1) (src_keys h1 es ep) (I.ok.hd hc) h3 (by rw [h4]; exact h2) fun h' tk acc hk hacc => ?_)))
  have al : acc.toList.length = ps.length := by rw [Array.length_toList, hacc.1, h4]
  have each : ∀ (j : Nat) (v : Value), acc.toList[j]? = some v → ∃ (t : Addr) (p : Int × Int), ps[j]? = some p ∧ v = .ref t ∧ H t = some (.tup [.int p.1, .int p.2]) := fun j v e => by
    obtain ⟨en, e1, rfl⟩ := hacc.2 j v (by rw [← Array.getElem?_toList]; exact e)
    have hj : j < ps.length := by rw [← al]; exact (List.getElem?_eq_some_iff.mp e).1
    obtain ⟨en2, t, z1, z2, z3⟩ := h5 j [Sum.inl ps[j].1, Sum.inl ps[j].2] (.bl true) (by rw [List.getElem?_map, List.getElem?_eq_getElem hj]; rfl)
    rw [e1] at z1
    cases z1
    exact ⟨t, ps[j], List.getElem?_eq_getElem hj, z2, z3⟩
  have kB : ∀ (t : Addr) (p : Int × Int), H t = some (.tup [.int p.1, .int p.2]) → keyB H (.ref t) = p := fun t p z => by
    show keyV H (.ref t) = p
    simp only [keyV, z]
  have kmap : acc.toList.map (keyB H) = ps := by
    apply List.ext_getElem?
    intro j
    rw [List.getElem?_map]
    cases e : acc.toList[j]? with
    | none =>
      have := List.getElem?_eq_none_iff.mp e
      rw [List.getElem?_eq_none (by omega)]; rfl
    | some v =>
      obtain ⟨t, p, z1, rfl, z3⟩ := each j v e
      rw [z1]
      exact congrArg some (kB t p z3)
  have refs : ∀ v ∈ acc.toList, ∃ t, v = .ref t ∧ H t = some (.tup [.int (keyB H v).1, .int (keyB H v).2]) := fun v hv => by
    obtain ⟨j, hj⟩ := List.mem_iff_getElem?.mp hv
    obtain ⟨t, p, z1, rfl, z3⟩ := each j v hj
    exact ⟨t, rfl, by rw [kB t p z3]; exact z3⟩
  have I1 : Inv X pins σ H { s with heap := h', toks := tk } := I.kept hk
  refine wpAny_bind (wpAny_newList ?_ (by rw [al]; exact h2))
  have hoL : (h'.push (seqObj "list" acc.toList.toArray 0)).get? h'.objs.size = some (seqObj "list" acc.toList.toArray 0) := Heap.get?_push_size _ rfl
  have pairs : ∀ v ∈ acc.toList, Srt.IsPair (h'.push (seqObj "list" acc.toList.toArray 0)) v (keyB H v).1 (keyB H v).2 := fun v hv => by
    obtain ⟨t, rfl, ht⟩ := refs v hv
    obtain ⟨_, its2, r2, o, ho, hcl, n, hd⟩ := I1.hok _ _ ht
    obtain ⟨u1, u2, rfl, ri, rj⟩ := vals2 r2
    obtain ⟨t1, rfl⟩ := ri
    obtain ⟨t2, rfl⟩ := rj
    exact ⟨t, o, t1, t2, n, rfl, Heap.get?_push_of_some _ ho, hcl, hd⟩
  show wpAny _ _ _ _ _ { s with heap := h'.push (seqObj "list" acc.toList.toArray 0), toks := tk }
  refine wpAny_bind (wpAny_holding (wpAny_call_entry PyProof.Rows.slot_list_sort ⟨_, hoL, rfl⟩ PyProof.Rows.entry_list_sort
    (SrtO.list_sort_ord (s := { s with heap := h'.push (seqObj "list" acc.toList.toArray 0), toks := tk }) (SrtO.swo_lex (keyB H)) hoL (by rw [al]; exact h2) (fun z2 => SrtO.pairs_sortableO (by omega) pairs fun o e => ?_) fun out s1 s2 => ⟨_, rfl, ?_⟩)
    (PyProof.Rows.args_list_sort _)))
  · have e' : some o = some (seqObj "list" acc.toList.toArray 0) := e.symm.trans hoL
    cases e'
    intro z
    exact absurd (Value.type.inj z) (by decide)
  · obtain ⟨e', he'⟩ := PyProof.Rows.sortedHeap_at (vs := acc.toList) (out := out.toArray) hoL
    have h6 : ∀ u ∈ out, ∃ a, u = Value.ref a := fun u hu => by
      obtain ⟨t, z, _⟩ := refs u (s2.perm.mem_iff.mp hu)
      exact ⟨t, z⟩
    have hb : SrtO.Stb (ltP (keyV H)) (out.map backV) (acc.toList.map backV) := SrtO.Stb.map (ltP_swo (keyV H)) backV s2
    have hlen : (out.map backV).length ≤ sizeLine := by
      rw [List.length_map, s2.perm.length_eq, al]
      exact h2
    refine wpAny_pure ⟨_, rfl, .ref h'.objs.size, upd H h'.objs.size (.lst (out.map backV)), I1.laid (t' := tk) (fun b u e => ?_) (Nat.le_refl _)
      (show ObjOk X.prog X.w _ _ _ (.lst (out.map backV)) from ⟨hlen, out, e', vals_back h6, he'⟩), rfl, q (acc.toList.map backV) _ _ (by rw [List.map_map]; exact kmap) (fun x hx => ?_) (SrtO.srtd_map s1) hb (I1.hok.fresh (Nat.le_refl _))⟩
    · have hb : b < h'.objs.size := Heap.lt_size e
      rw [PyProof.Rows.sortedHeap_old (Nat.ne_of_lt hb) (by rw [size_push']; exact Nat.lt_succ_of_lt hb)]
      exact Heap.get?_push_of_some _ e
    · obtain ⟨v, hv, rfl⟩ := List.mem_map.mp hx
      obtain ⟨t, rfl, ht⟩ := refs v hv
      exact ⟨t, rfl, ht⟩
theorem sorted_eq {k : V → Int × Int} {ys xs : List V} {ps : List (Int × Int)} (h1 : xs.map k = ps) (h2 : SrtO.Srtd (ltP k) ys) (h3 : SrtO.Stb (ltP k) ys xs) : ys.map k = ps.mergeSort leP := by
  refine List.Perm.eq_of_pairwise (le := fun a b => leP a b = true) (fun a b _ _ z1 z2 => ?_) ?_ ?_ ?_
  · have z1 := leP_iff.mp z1
    have z2 := leP_iff.mp z2
    exact Prod.ext (by omega) (by omega)
  · rw [List.pairwise_map]
    exact h2.imp fun {x y} h => by
      have h' : SrtO.lexB (k y) (k x) = false := h
      unfold leP; rw [h']; rfl
  · exact List.pairwise_mergeSort (fun a b c z1 z2 => by
      have z1 := leP_iff.mp z1
      have z2 := leP_iff.mp z2
      exact leP_iff.mpr (by omega)) (fun a b => by
      rw [Bool.or_eq_true, leP_iff, leP_iff]
      omega) ps
  · rw [← h1]
    exact (h3.perm.map _).trans (List.mergeSort_perm _ _).symm
section
variable {X : Cx} {E : XK}
theorem cf_sorted (hc : X.calm = true) : CF X E (.builtin "sorted") sortD := by
  intro dx
  cases dx <;> first
    | exact ⟨_, callr_false, fun _ _ _ _ _ _ w => (show False from w).elim⟩
    | skip
  · rename_i ds
    refine ⟨_, cr_sortedPO, fun G H vx Q s bx w => ?_⟩
    obtain ⟨a, xs, rfl, hp, hr⟩ := bx.lst s
    unfold sortD at w
    dsimp only at w
    split at w
    · rename_i ps hps
      obtain ⟨i1, i2⟩ := pairs_of s hr hps
      refine ⟨a, xs, keyV H, rfl, SqL.of hp, fun x hx => (i1 x hx).1, fun ys p hs hst hpn => ?_⟩
      have e : ys.map (keyV H) = ps.mergeSort leP := by
        refine List.Perm.eq_of_pairwise (le := fun a b => leP a b = true) (fun a b _ _ h1 h2 => ?_) ?_ ?_ ?_
        · have h1 := leP_iff.mp h1
          have h2 := leP_iff.mp h2
          exact Prod.ext (by omega) (by omega)
        · rw [List.pairwise_map]
          exact hs.imp fun {x y} h => by
            have h' : SrtO.lexB (keyV H y) (keyV H x) = false := h
            unfold leP; rw [h']; rfl
        · exact List.pairwise_mergeSort (fun a b c h1 h2 => by
            have h1 := leP_iff.mp h1
            have h2 := leP_iff.mp h2
            exact leP_iff.mpr (by omega)) (fun a b => by
            rw [Bool.or_eq_true, leP_iff, leP_iff]
            omega) ps
        · rw [← i2]
          exact (hst.perm.map _).trans (List.mergeSort_perm _ _).symm
      have hr2 : RpAll X.K G ys ((ps.mergeSort leP).map prD) := by
        rw [← e, List.map_map]
        exact rp_map fun y hy => (i1 y (hst.perm.mem_iff.mp hy)).2
      exact w G _ (Ext.newOwn s hpn) p _ hpn upd_same (s.free hpn) ⟨_, rfl, hr2⟩
    · exact (show False from w).elim
  · rename_i ks
    refine ⟨_, cr_sortT hc, fun G H vx Q s bx w => ?_⟩
    obtain ⟨a, rfl, hp⟩ := bx.dctT s
    unfold sortD at w
    dsimp only at w
    split at w
    · rename_i ps hps
      have ek := kPrs_eq hps
      subst ek
      rw [List.map_map] at hp
      refine ⟨a, ps, rfl, hp, fun xs ys p h1 h2 h3 h4 hpn => ?_⟩
      have e := sorted_eq h1 h3 h4
      have h5 : ∀ y ∈ ys, ∃ t, y = .ref t ∧ H t = some (.tup [.int (keyV H y).1, .int (keyV H y).2]) := fun y hy => h2 y (h4.perm.mem_iff.mp hy)
      classical
      have gT : ∀ t, V.ref t ∈ ys → ∃ zs, H t = some (.tup zs) := fun t ht => by
        obtain ⟨t', z, z2⟩ := h5 _ ht
        cases z
        exact ⟨_, z2⟩
      let G2 : Hp := fun t => if V.ref t ∈ ys then H t else G t
      have g1 : ∀ t, V.ref t ∈ ys → G2 t = H t := fun t ht => if_pos ht
      have g2 : ∀ t, ¬ V.ref t ∈ ys → G2 t = G t := fun t ht => if_neg ht
      have np : ¬ V.ref p ∈ ys := fun z => by
        obtain ⟨zs, z2⟩ := gT p z
        rw [hpn] at z2
        cases z2
      have ext : Ext G H G2 (upd H p (.lst ys)) := by
        refine ⟨fun t u z => ?_, Same.upd hpn, fun t hn _ => ?_, fun t u z => ?_⟩
        · by_cases ht : V.ref t ∈ ys
          · rw [g1 t ht] at z
            rw [upd_ne (ne_of_none z hpn)]
            exact z
          · rw [g2 t ht] at z
            rw [upd_ne (ne_of_none (s _ _ z) hpn)]
            exact s _ _ z
        · refine g2 t fun ht => ?_
          obtain ⟨zs, z⟩ := gT t ht
          exact hn zs z
        · by_cases ht : V.ref t ∈ ys
          · rw [g1 t ht]
            exact s _ _ z
          · rw [g2 t ht]
            exact z
      refine w G2 _ ext p _ hpn upd_same ((g2 p np).trans (s.free hpn)) ⟨ys, rfl, ?_⟩
      rw [← e, List.map_map]
      refine rp_map fun y hy => ?_
      obtain ⟨t, z1, z2⟩ := h5 y hy
      have z3 : G2 t = some (.tup [.int (keyV H y).1, .int (keyV H y).2]) := (g1 t (z1 ▸ hy)).trans z2
      subst z1
      show Rp X.K G2 (.ref t) (prD (keyV H (.ref t)))
      exact .tup z3 (.cons (.int _) (.cons (.int _) .nil))
    · exact (show False from w).elim
end
end Cn

namespace Cn
open PySem PySem.Spec PyProof.Rows L2
/-! ### reckoning with denotations -/
theorem bind_ok {α β : Type} {a : α} {f : α → R β} : (R.ok a).bind f = f a := rfl
theorem bind_ex {α β : Type} {c : Str} {f : α → R β} : (R.ex c : R α).bind f = .ex c := rfl
theorem rOut_ok {d : D} {k : D → Out} : rOut (.ok d) k = k d := rfl
theorem rOut_ex {c : Str} {k : D → Out} : rOut (.ex c) k = .ex c := rfl
section
variable {o o' : D → D → R D} {u : D → R D} {f g h t e : EF} {fa fb : AF} {env : En} {i j n : Nat} {d : D} {F F' : SFn} {fn : List D → R D} {lo hi : OF} {c : Str} {ga : D → En → Option En}
theorem eV_a : eV i env = match env[i]? with | some (.val d) => .ok d | _ => .stuck := rfl
theorem eO_a : eO i env = match env[i]? with | some (.val d) => .ok d | some (.own d) => .ok d | _ => .stuck := rfl
theorem eC_a : eC d env = .ok d := rfl
theorem eOp_a : eOp o f g env = (f env).bind fun x => (g env).bind fun y => o x y := rfl
theorem eUn_a : eUn u f env = (f env).bind u := rfl
theorem eAnd_a : eAnd f g env = (f env).bind fun x => match x with | .bl true => g env | .bl false => .ok (.bl false) | _ => .stuck := rfl
theorem eOr_a : eOr f g env = (f env).bind fun x => match x with | .bl false => g env | .bl true => .ok (.bl true) | _ => .stuck := rfl
theorem eChain_a : eChain o o' f g h env = (f env).bind fun x => (g env).bind fun y => (o x y).bind fun z => match z with
  | .bl true => (h env).bind fun w => o' y w
  | .bl false => .ok (.bl false)
  | _ => .stuck := rfl
theorem aNil_a : aNil env = .ok [] := rfl
theorem aCons_a : aCons f fa env = (f env).bind fun x => (fa env).bind fun xs => .ok (x :: xs) := rfl
theorem eLst_a : eLst fa env = (fa env).bind fun ds => .ok (.lst ds) := rfl
theorem eTup_a : eTup fa env = (fa env).bind fun ds => .ok (.tup ds) := rfl
theorem eCall_a : eCall fn fa env = (fa env).bind fn := rfl
theorem eCallB_a : eCallB fn fa env = (fa env).bind fun ds => if ds.all noDct = true then flatR (fn ds) else .stuck := rfl
theorem eSl_a : eSl f lo hi env = (f env).bind fun x => (lo env).bind fun l => (hi env).bind fun u => match x with | .lst ds => .ok (.lst (cutL ds l u)) | _ => .stuck := rfl
theorem oNone_a : oNone env = .ok none := rfl
theorem oSome_a : oSome f env = (f env).bind fun d => match d with | .int i => .ok (some i) | _ => .stuck := rfl
theorem eDict1_a : eDict1 f env = (f env).bind fun d => match d with | .int i => .ok (.dct [i]) | _ => .stuck := rfl
theorem eComp_a : eComp fa j t e env = (fa env).bind fun ds => if ds.length ≤ LIM then (match compL j t e env ds with | .ok vs => .ok (.lst vs) | _ => .stuck) else .stuck := rfl
theorem eYes_a : eYes env = .ok (.bl true) := rfl
theorem iL_a : iL f env = (f env).bind seqD := rfl
theorem iT_a : iT f env = (f env).bind tupD := rfl
theorem iR1_a : iR1 f env = (f env).bind rg1D := rfl
theorem iR2_a : iR2 f g env = (f env).bind fun x => (g env).bind fun y => rg2D x y := rfl
theorem iR3_a : iR3 f g h env = (f env).bind fun x => (g env).bind fun y => (h env).bind fun z => rg3D x y z := rfl
theorem sNil_a : sNil env = .nx env := rfl
theorem sSeq_a : sSeq F F' env = match F env with | .nx e => F' e | o => o := rfl
theorem sIf_a : sIf f F F' env = rOut (f env) fun d => match d with | .bl true => F env | .bl false => F' env | _ => .stuck := rfl
theorem sAsg_a : sAsg i f env = rOut (f env) fun d => .nx (env.set i (.val d)) := rfl
theorem sOwn_a : sOwn i f env = rOut (f env) fun d => .nx (env.set i (.own d)) := rfl
theorem sRet_a : sRet f env = rOut (f env) fun d => .rt d := rfl
theorem sRetO_a : sRetO i env = match env[i]? with | some (.val d) => .rt d | some (.own d) => .rt d | _ => .stuck := rfl
theorem sRaise_a : sRaise c env = .ex c := rfl
theorem sExpr_a : sExpr f env = rOut (f env) fun _ => .nx env := rfl
theorem frz_a : frz i env = match env[i]? with | some (.own d) => env.set i (.val d) | _ => env := rfl
theorem sFrz_a : sFrz i F env = F (frz i env) := rfl
theorem sApp_a : sApp i f env = match env[i]? with
  | some (.own (.lst ds)) => rOut (f env) fun d => if ds.length < LIM then .nx (env.set i (.own (.lst (ds ++ [d])))) else .stuck
  | _ => .stuck := rfl
theorem sExt_a : sExt i f env = match env[i]? with
  | some (.own (.lst ds)) => rOut (f env) fun d => match d with
    | .lst es => if ds.length + es.length ≤ LIM then .nx (env.set i (.own (.lst (ds ++ es)))) else .stuck
    | _ => .stuck
  | _ => .stuck := rfl
theorem sPut_a {fk fv : EF} : sPut i fk fv env = match env[i]? with
  | some (.own (.lst ds)) => rOut (fv env) fun v => rOut (fk env) fun k => match k with
    | .int n => match ixN ds.length n with
      | some m => .nx (env.set i (.own (.lst (ds.set m v))))
      | none => .stuck
    | _ => .stuck
  | _ => .stuck := rfl
theorem sPutD_a {fk : EF} : sPutD i fk env = match env[i]? with
  | some (.own (.dct ks)) => rOut (fk env) fun k => match k with
    | .int n => if ks.length < LIM then .nx (env.set i (.own (.dct (addK ks n)))) else .stuck
    | _ => .stuck
  | some (.own (.dctT ks)) => rOut (fk env) fun k => match k with
    | .tup xs => match toInts xs with
      | some ns => if ks.length < LIM then .nx (env.set i (.own (.dctT (addK ks ns)))) else .stuck
      | none => .stuck
    | _ => .stuck
  | _ => .stuck := rfl
theorem sFor_a : sFor fa ga F env = match fa env with | .ok ds => forL ga F ds env | .ex c => .ex c | .stuck => .stuck := rfl
theorem sWhile_a : sWhile n f F env = whileF f F n env := rfl
theorem tgN_a : tgN j d env = some (env.set j (.val d)) := rfl
theorem runF_a {ds : List D} : runF n F ds = match F (ds.map Sl.val ++ List.replicate (n - ds.length) Sl.no) with
  | .nx _ => .ok .non
  | .rt d => .ok d
  | .ex c => .ex c
  | _ => .stuck := rfl
theorem forL_nil : forL ga F [] env = .nx env := rfl
theorem forL_cons {r : List D} : forL ga F (d :: r) env = match ga d env with
    | none => .stuck
    | some env1 => match F env1 with
      | .nx e => forL ga F r e
      | .ct e => forL ga F r e
      | .bk e => .nx e
      | .rt d => .rt d
      | .ex c => .ex c
      | .stuck => .stuck := rfl
theorem whileF_s : whileF f F (n + 1) env = rOut (f env) fun d => match d with
    | .bl true => match F env with
      | .nx e => whileF f F n e
      | .ct e => whileF f F n e
      | .bk e => .nx e
      | .rt d => .rt d
      | .ex c => .ex c
      | .stuck => .stuck
    | .bl false => .nx env
    | _ => .stuck := rfl
theorem compL_nil : compL j t e env [] = .ok [] := rfl
theorem compL_cons {r : List D} : compL j t e env (d :: r) = match t (env.set j (.val d)) with
    | .ok (.bl true) => match e (env.set j (.val d)) with
      | .ok v => (compL j t e env r).bind fun vs => .ok (v :: vs)
      | _ => .stuck
    | .ok (.bl false) => compL j t e env r
    | _ => .stuck := rfl
end
theorem kit_ii : kitB "int" "int" = some true := by decide +kernel
theorem kit_bi : kitB "bool" "int" = some true := by decide +kernel
theorem kit_ib : kitB "int" "bool" = some false := by decide +kernel
theorem kit_bb : kitB "bool" "bool" = some true := by decide +kernel
theorem kit_ll : kitB "list" "list" = some true := by decide +kernel
theorem kit_tt : kitB "tuple" "tuple" = some true := by decide +kernel
theorem kit_ss : kitB "str" "str" = some true := by decide +kernel
theorem isi_ii {i : Int} : isiD "int" (.int i) = .ok (.bl true) := by simp only [isiD, tyName, kit_ii]
theorem isi_ib {i : Int} : isiD "bool" (.int i) = .ok (.bl false) := by simp only [isiD, tyName, kit_ib]
theorem isi_bb {i : Bool} : isiD "bool" (.bl i) = .ok (.bl true) := by simp only [isiD, tyName, kit_bb]
theorem isi_ll {i : List D} : isiD "list" (.lst i) = .ok (.bl true) := by simp only [isiD, tyName, kit_ll]
theorem isi_tt {i : List D} : isiD "tuple" (.tup i) = .ok (.bl true) := by simp only [isiD, tyName, kit_tt]
theorem isi_ss {i : Str} : isiD "str" (.str i) = .ok (.bl true) := by simp only [isiD, tyName, kit_ss]
theorem eqD_ii {i j : Int} : eqD (.int i) (.int j) = .ok (.bl (decide (i = j))) := rfl
theorem neD_ii {i j : Int} : neD (.int i) (.int j) = .ok (.bl (!decide (i = j))) := rfl
theorem eqD_ss {i j : Str} : eqD (.str i) (.str j) = .ok (.bl (decide (i = j))) := rfl
theorem neD_ss {i j : Str} : neD (.str i) (.str j) = .ok (.bl (!decide (i = j))) := rfl
theorem eqD_bb {i j : Bool} : eqD (.bl i) (.bl j) = .ok (.bl (decide (i = j))) := rfl
theorem neD_bb {i j : Bool} : neD (.bl i) (.bl j) = .ok (.bl (!decide (i = j))) := rfl
theorem modD_pos {i j : Int} (h : 0 < j) : modD (.int i) (.int j) = .ok (.int (i % j)) := by simp only [modD, if_pos h]
theorem fdivD_pos {i j : Int} (h : 0 < j ∧ j < 1073741824) : fdivD (.int i) (.int j) = .ok (.int (i / j)) := by simp only [fdivD, if_pos (divOk_iff.mpr h)]
theorem xorD_pos {i j : Int} (h : 0 ≤ i ∧ 0 ≤ j) : xorD (.int i) (.int j) = .ok (.int (xorI i j)) := by simp only [xorD, if_pos h]
theorem mulD_r {j : Int} (i : Int) (h : -(2 ^ 64) < j ∧ j < 2 ^ 64) : mulD (.int i) (.int j) = .ok (.int (i * j)) := by
  have : (inM i || inM j) = true := by rw [inM_of h, Bool.or_true]
  simp only [mulD, if_pos this]
theorem mulD_l {i : Int} (j : Int) (h : -(2 ^ 64) < i ∧ i < 2 ^ 64) : mulD (.int i) (.int j) = .ok (.int (i * j)) := by
  have : (inM i || inM j) = true := by rw [inM_of h, Bool.true_or]
  simp only [mulD, if_pos this]
theorem xorI_nn {i j : Int} : 0 ≤ xorI i j := by unfold xorI; omega
theorem xorI_lt {i j : Int} {k : Nat} (hi : i < ((2 ^ k : Nat) : Int)) (hj : j < ((2 ^ k : Nat) : Int)) : xorI i j < ((2 ^ k : Nat) : Int) := by
  unfold xorI
  have hp : 0 < 2 ^ k := Nat.two_pow_pos k
  generalize hc : 2 ^ k = c at *
  have h1 : i.toNat < 2 ^ k := by rw [hc]; omega
  have h2 : j.toNat < 2 ^ k := by rw [hc]; omega
  have := Nat.xor_lt_two_pow h1 h2
  rw [hc] at this
  omega
theorem xorI_16 {i j : Int} (hi : i < 65536) (hj : j < 65536) : xorI i j < 65536 := xorI_lt (k := 16) hi hj
theorem xorI_comm (i j : Int) : xorI i j = xorI j i := by unfold xorI; rw [Nat.xor_comm]
/-- the k-th number of the script, or nought -/
def cell (ns : List Int) (k : Nat) : Int := ns.getD k 0
theorem atI_cell {ns : List Int} {k : Nat} (h : k < ns.length) : atI ns (k : Int) = some (cell ns k) := by
  refine atI_nat ?_
  unfold cell
  rw [List.getD_eq_getElem?_getD, List.getElem?_eq_getElem h]
  rfl
theorem cell_out {ns : List Int} {k : Nat} (h : ¬ k < ns.length) : cell ns k = 0 := by
  unfold cell
  rw [List.getD_eq_getElem?_getD, List.getElem?_eq_none (by omega)]
  rfl
end Cn

namespace Cn
open PySem PySem.Spec PyProof.Rows L2
mutual
def same : D → D → Bool
  | .non, .non => true
  | .bl a, .bl b => a == b
  | .int a, .int b => decide (a = b)
  | .str a, .str b => decide (a = b)
  | .lst xs, .lst ys => sameL xs ys
  | .tup xs, .tup ys => sameL xs ys
  | .scr a, .scr b => decide (a = b)
  | .dct a, .dct b => decide (a = b)
  | .dctT a, .dctT b => decide (a = b)
  | .err a, .err b => decide (a = b)
  | .two a b, .two c d => decide (a = c) && decide (b = d)
  | _, _ => false
def sameL : List D → List D → Bool
  | [], [] => true
  | x :: xs, y :: ys => same x y && sameL xs ys
  | _, _ => false
end
mutual
theorem same_eq : ∀ (x y : D), same x y = true → x = y
  | .non, y, h => by cases y <;> simp only [same] at h <;> first | rfl | cases h
  | .bl a, y, h => by cases y <;> simp only [same, beq_iff_eq] at h <;> first | (rw [h]) | cases h
  | .int a, y, h => by cases y <;> simp only [same, decide_eq_true_eq] at h <;> first | (rw [h]) | cases h
  | .str a, y, h => by cases y <;> simp only [same, decide_eq_true_eq] at h <;> first | (rw [h]) | cases h
  | .scr a, y, h => by cases y <;> simp only [same, decide_eq_true_eq] at h <;> first | (rw [h]) | cases h
  | .dct a, y, h => by cases y <;> simp only [same, decide_eq_true_eq] at h <;> first | (rw [h]) | cases h
  | .dctT a, y, h => by cases y <;> simp only [same, decide_eq_true_eq] at h <;> first | (rw [h]) | cases h
  | .err a, y, h => by cases y <;> simp only [same, decide_eq_true_eq] at h <;> first | (rw [h]) | cases h
  | .two a b, y, h => by cases y <;> simp only [same, Bool.and_eq_true, decide_eq_true_eq] at h <;> first | (rw [h.1, h.2]) | cases h
  | .lst a, y, h => by cases y <;> simp only [same] at h <;> first | (rw [sameL_eq _ _ h]) | cases h
  | .tup a, y, h => by cases y <;> simp only [same] at h <;> first | (rw [sameL_eq _ _ h]) | cases h
theorem sameL_eq : ∀ (x y : List D), sameL x y = true → x = y
  | [], y, h => by cases y <;> simp only [sameL] at h <;> first | rfl | cases h
  | x :: xs, y, h => by
    cases y with
    | nil => simp only [sameL] at h; cases h
    | cons y ys =>
      simp only [sameL, Bool.and_eq_true] at h
      rw [same_eq x y h.1, sameL_eq xs ys h.2]
end
mutual
theorem same_self : ∀ x : D, same x x = true
  | .non => by simp only [same]
  | .bl a => by simp only [same, beq_self_eq_true]
  | .int a => by simp only [same, decide_true]
  | .str a => by simp only [same, decide_true]
  | .scr a => by simp only [same, decide_true]
  | .dct a => by simp only [same, decide_true]
  | .dctT a => by simp only [same, decide_true]
  | .err a => by simp only [same, decide_true]
  | .two a b => by simp only [same, decide_true, Bool.and_self]
  | .lst a => by simp only [same]; exact sameL_self a
  | .tup a => by simp only [same]; exact sameL_self a
theorem sameL_self : ∀ x : List D, sameL x x = true
  | [] => by simp only [sameL]
  | x :: xs => by simp only [sameL]; rw [same_self x, sameL_self xs]; rfl
end
theorem same_iff {x y : D} : same x y = true ↔ x = y := ⟨same_eq x y, fun h => h ▸ same_self x⟩
theorem sameL_iff {x y : List D} : sameL x y = true ↔ x = y := ⟨sameL_eq x y, fun h => h ▸ sameL_self x⟩
instance : DecidableEq D := fun x y => decidable_of_iff _ (@same_iff x y)
theorem same_dec (x y : D) : same x y = decide (x = y) := by
  by_cases h : x = y
  · rw [decide_eq_true h, h, same_self]
  · rw [decide_eq_false h]
    cases e : same x y with
    | true => exact (h (same_eq x y e)).elim
    | false => rfl
mutual
/-- whole numbers, and lists and tuples of them -/
def num : D → Bool
  | .int _ => true
  | .lst xs => numL xs
  | .tup xs => numL xs
  | _ => false
def numL : List D → Bool
  | [] => true
  | x :: xs => num x && numL xs
end
mutual
theorem num_plain : ∀ x : D, num x = true → plain x = true
  | .int _, _ => by simp only [plain]
  | .lst a, h => by simp only [num] at h; simp only [plain]; exact numL_plain a h
  | .tup a, h => by simp only [num] at h; simp only [plain]; exact numL_plain a h
  | .non, h => by simp only [num] at h; cases h
  | .bl _, h => by simp only [num] at h; cases h
  | .str _, h => by simp only [num] at h; cases h
  | .scr _, h => by simp only [num] at h; cases h
  | .dct _, h => by simp only [num] at h; cases h
  | .dctT _, h => by simp only [num] at h; cases h
  | .err _, h => by simp only [num] at h; cases h
  | .two _ _, h => by simp only [num] at h; cases h
theorem numL_plain : ∀ x : List D, numL x = true → plainL x = true
  | [], _ => by simp only [plainL]
  | x :: xs, h => by
    simp only [numL, Bool.and_eq_true] at h
    simp only [plainL]
    rw [num_plain x h.1, numL_plain xs h.2]; rfl
end
mutual
theorem num_eqv : ∀ x y : D, num x = true → num y = true → PyData.eqv x.py y.py = same x y
  | .int a, y, _, hy => by
    cases y <;> simp only [num] at hy <;> first | (simp only [D.py, PyData.eqv, same]; done) | (simp only [D.py, PyData.eqv, same]; rfl) | cases hy
  | .lst a, y, hx, hy => by
    simp only [num] at hx
    cases y with
    | lst b => simp only [num] at hy; simp only [D.py, PyData.eqv, same]; exact numL_eqv a b hx hy
    | tup b => simp only [D.py, PyData.eqv, same]
    | int b => simp only [D.py, PyData.eqv, same]
    | _ => simp only [num] at hy; cases hy
  | .tup a, y, hx, hy => by
    simp only [num] at hx
    cases y with
    | tup b => simp only [num] at hy; simp only [D.py, PyData.eqv, same]; exact numL_eqv a b hx hy
    | lst b => simp only [D.py, PyData.eqv, same]
    | int b => simp only [D.py, PyData.eqv, same]
    | _ => simp only [num] at hy; cases hy
  | .non, _, h, _ => by simp only [num] at h; cases h
  | .bl _, _, h, _ => by simp only [num] at h; cases h
  | .str _, _, h, _ => by simp only [num] at h; cases h
  | .scr _, _, h, _ => by simp only [num] at h; cases h
  | .dct _, _, h, _ => by simp only [num] at h; cases h
  | .dctT _, _, h, _ => by simp only [num] at h; cases h
  | .err _, _, h, _ => by simp only [num] at h; cases h
  | .two _ _, _, h, _ => by simp only [num] at h; cases h
theorem numL_eqv : ∀ x y : List D, numL x = true → numL y = true → PyData.eqvAll (pyL x) (pyL y) = sameL x y
  | [], [], _, _ => by simp only [pyL, PyData.eqvAll, sameL]
  | [], y :: ys, _, _ => by simp only [pyL, PyData.eqvAll, sameL]
  | x :: xs, [], _, _ => by simp only [pyL, PyData.eqvAll, sameL]
  | x :: xs, y :: ys, hx, hy => by
    simp only [numL, Bool.and_eq_true] at hx hy
    simp only [pyL, PyData.eqvAll, sameL]
    rw [num_eqv x y hx.1 hy.1, numL_eqv xs ys hx.2 hy.2]
end
/-- a list of numbers, lists, tuples at most so deep -/
def nd (n : Nat) (ds : List D) : Prop := ∀ d ∈ ds, num d = true ∧ dep d ≤ n
theorem nd_num : ∀ {n : Nat} {ds : List D}, nd n ds → numL ds = true
  | _, [], _ => by simp only [numL]
  | n, d :: r, h => by
    simp only [numL]
    rw [(h d (List.mem_cons_self ..)).1, nd_num (n := n) fun x hx => h x (List.mem_cons_of_mem _ hx)]; rfl
theorem nd_dep : ∀ {n : Nat} {ds : List D}, nd n ds → depL ds ≤ n
  | _, [], _ => by simp only [depL]; omega
  | n, d :: r, h => by
    simp only [depL]
    have a := (h d (List.mem_cons_self ..)).2
    have b := nd_dep (n := n) (ds := r) fun x hx => h x (List.mem_cons_of_mem _ hx)
    omega
theorem nd_ok {n : Nat} {ds : List D} (h : nd n ds) (hn : n ≤ 8) : okL ds = true := by
  unfold okL
  rw [numL_plain _ (nd_num h), decide_eq_true (show depL ds ≤ 8 by have := nd_dep h; omega)]; rfl
theorem nd_lst {n : Nat} {ds : List D} (h : nd n ds) : num (.lst ds) = true ∧ dep (.lst ds) ≤ n + 1 := by
  simp only [num, dep]
  exact ⟨nd_num h, by have := nd_dep h; omega⟩
theorem nd_tup {n : Nat} {ds : List D} (h : nd n ds) : num (.tup ds) = true ∧ dep (.tup ds) ≤ n + 1 := by
  simp only [num, dep]
  exact ⟨nd_num h, by have := nd_dep h; omega⟩
theorem nd_int (i : Int) : num (.int i) = true ∧ dep (.int i) ≤ 0 := by simp only [num, dep]; exact ⟨trivial, Nat.le_refl 0⟩
theorem nd_ints (a : List Int) : nd 0 (a.map D.int) := by
  intro d hd
  obtain ⟨i, _, rfl⟩ := List.mem_map.mp hd
  exact nd_int i
theorem nd_nil {n : Nat} : nd n [] := fun d h => by cases h
theorem nd_cons {n : Nat} {d : D} {ds : List D} (h : num d = true ∧ dep d ≤ n) (h2 : nd n ds) : nd n (d :: ds) := by
  intro x hx
  rcases List.mem_cons.mp hx with rfl | hx
  · exact h
  · exact h2 x hx
theorem nd_map {n : Nat} {α : Type} {f : α → D} (h : ∀ a, num (f a) = true ∧ dep (f a) ≤ n) (as : List α) : nd n (as.map f) := by
  intro d hd
  obtain ⟨i, _, rfl⟩ := List.mem_map.mp hd
  exact h i
theorem eqB_l {n : Nat} {a b : List D} (ha : nd n a) (hb : nd n b) (hn : n ≤ 8 := by decide) : eqB (.lst a) (.lst b) = some (decide (D.lst a = .lst b)) := by
  simp only [eqB]
  rw [nd_ok ha hn, nd_ok hb hn, if_pos (by rfl), numL_eqv a b (nd_num ha) (nd_num hb), ← same_dec]
  simp only [same]
theorem eqB_t {n : Nat} {a b : List D} (ha : nd n a) (hb : nd n b) (hn : n ≤ 8 := by decide) : eqB (.tup a) (.tup b) = some (decide (D.tup a = .tup b)) := by
  simp only [eqB]
  rw [nd_ok ha hn, nd_ok hb hn, if_pos (by rfl), numL_eqv a b (nd_num ha) (nd_num hb), ← same_dec]
  simp only [same]
theorem eqD_l {n : Nat} {a b : List D} (ha : nd n a) (hb : nd n b) (hn : n ≤ 8 := by decide) : eqD (.lst a) (.lst b) = .ok (.bl (decide (D.lst a = .lst b))) := by
  unfold eqD; rw [eqB_l ha hb hn]
theorem neD_l {n : Nat} {a b : List D} (ha : nd n a) (hb : nd n b) (hn : n ≤ 8 := by decide) : neD (.lst a) (.lst b) = .ok (.bl (!decide (D.lst a = .lst b))) := by
  unfold neD; rw [eqB_l ha hb hn]
theorem neD_self {n : Nat} {a : List D} (ha : nd n a) (hn : n ≤ 8 := by decide) : neD (.lst a) (.lst a) = .ok (.bl false) := by
  rw [neD_l ha ha hn, decide_eq_true rfl]; rfl
theorem eqD_self {n : Nat} {a : List D} (ha : nd n a) (hn : n ≤ 8 := by decide) : eqD (.lst a) (.lst a) = .ok (.bl true) := by
  rw [eqD_l ha ha hn, decide_eq_true rfl]
theorem any_py : ∀ {ds : List D} {x : D}, num x = true → numL ds = true → ((pyL ds).any fun z => PyData.eqv z x.py) = decide (x ∈ ds)
  | [], x, _, _ => by simp only [pyL, List.any_nil, List.not_mem_nil, decide_false]
  | d :: r, x, hx, h => by
    simp only [numL, Bool.and_eq_true] at h
    simp only [pyL, List.any_cons]
    rw [any_py hx h.2, num_eqv d x h.1 hx, same_dec]
    by_cases e : d = x
    · subst e; simp
    · have : x ≠ d := fun z => e z.symm
      simp [e, this]
theorem flat_int : ∀ {ds : List D}, (ds.all flatD) = true → numL ds = true → ∀ i : Int, (ds.any fun y => eqF y (.int i)) = decide (D.int i ∈ ds)
  | [], _, _, i => by simp
  | d :: r, h, hn, i => by
    simp only [List.all_cons, Bool.and_eq_true] at h
    simp only [numL, Bool.and_eq_true] at hn
    rw [List.any_cons, flat_int h.2 hn.2 i]
    cases d with
    | int j =>
      simp only [eqF]
      by_cases e : j = i
      · subst e; simp
      · have : ¬ i = j := fun z => e z.symm
        simp [e, this]
    | lst _ => simp only [flatD] at h; cases h.1
    | tup _ => simp only [flatD] at h; cases h.1
    | _ => simp only [num] at hn; cases hn.1
theorem inB_l {n : Nat} {x : D} {ds : List D} (hx : num x = true ∧ dep x ≤ n) (h : nd n ds) (hn : n ≤ 8 := by decide) : inB x (.lst ds) = some (decide (x ∈ ds)) := by
  have h1 : okD x = true := by
    unfold okD
    rw [num_plain x hx.1, decide_eq_true (show dep x ≤ 9 by omega)]; rfl
  have h2 : okL ds = true := nd_ok h hn
  simp only [inB]
  split
  · rename_i hf
    rw [Bool.and_eq_true] at hf
    cases x with
    | int i => rw [flat_int hf.2 (nd_num h) i]
    | lst a => simp only [flatD] at hf; cases hf.1
    | tup a => simp only [flatD] at hf; cases hf.1
    | _ => simp only [num] at hx; cases hx.1
  · rw [h1, h2, if_pos (by rfl), any_py hx.1 (nd_num h)]
theorem inD_l {n : Nat} {x : D} {ds : List D} (hx : num x = true ∧ dep x ≤ n) (h : nd n ds) (hn : n ≤ 8 := by decide) : inD x (.lst ds) = .ok (.bl (decide (x ∈ ds))) := by
  unfold inD; rw [inB_l hx h hn]
theorem ninD_l {n : Nat} {x : D} {ds : List D} (hx : num x = true ∧ dep x ≤ n) (h : nd n ds) (hn : n ≤ 8 := by decide) : ninD x (.lst ds) = .ok (.bl (!decide (x ∈ ds))) := by
  unfold ninD; rw [inB_l hx h hn]
theorem int_inj : Function.Injective D.int := fun a b h => by cases h; rfl
theorem mem_ints {i : Int} {a : List Int} : D.int i ∈ a.map D.int ↔ i ∈ a := by
  constructor
  · intro h
    obtain ⟨j, hj, e⟩ := List.mem_map.mp h
    cases e; exact hj
  · exact fun h => List.mem_map.mpr ⟨i, h, rfl⟩
theorem inD_ints (i : Int) (a : List Int) : inD (.int i) (.lst (a.map D.int)) = .ok (.bl (decide (i ∈ a))) := by
  rw [inD_l (nd_int i) (nd_ints a)]
  congr 2
  exact decide_eq_decide.mpr mem_ints
theorem map_int_inj : ∀ {a b : List Int}, a.map D.int = b.map D.int → a = b
  | [], [], _ => rfl
  | [], _ :: _, h => by cases h
  | _ :: _, [], h => by cases h
  | a :: as, b :: bs, h => by
    rw [List.map_cons, List.map_cons] at h
    injection h with h1 h2
    injection h1 with h1
    rw [h1, map_int_inj h2]
theorem eqD_ints (a b : List Int) : eqD (.lst (a.map D.int)) (.lst (b.map D.int)) = .ok (.bl (decide (a = b))) := by
  rw [eqD_l (nd_ints a) (nd_ints b)]
  congr 2
  exact decide_eq_decide.mpr ⟨fun h => by injection h with h; exact map_int_inj h, fun h => by rw [h]⟩
theorem neD_ints (a b : List Int) : neD (.lst (a.map D.int)) (.lst (b.map D.int)) = .ok (.bl (!decide (a = b))) := by
  rw [neD_l (nd_ints a) (nd_ints b)]
  congr 3
  exact decide_eq_decide.mpr ⟨fun h => by injection h with h; exact map_int_inj h, fun h => by rw [h]⟩
end Cn
namespace Cn
open PySem PySem.Spec PyProof.Rows L2
instance decR : DecidableEq (R D)
  | .ok a, .ok b => if h : a = b then .isTrue (by rw [h]) else .isFalse (fun e => by injection e with e; exact h e)
  | .ex a, .ex b => if h : a = b then .isTrue (by rw [h]) else .isFalse (fun e => by injection e with e; exact h e)
  | .stuck, .stuck => .isTrue rfl
  | .ok _, .ex _ => .isFalse (fun e => by cases e)
  | .ok _, .stuck => .isFalse (fun e => by cases e)
  | .ex _, .ok _ => .isFalse (fun e => by cases e)
  | .ex _, .stuck => .isFalse (fun e => by cases e)
  | .stuck, .ok _ => .isFalse (fun e => by cases e)
  | .stuck, .ex _ => .isFalse (fun e => by cases e)
theorem rgL_nil {a b : Int} (h : b ≤ a) : rgL a b = [] := by
  unfold rgL
  rw [show (b - a).toNat = 0 by omega]; rfl
theorem rgL_cons {a b : Int} (h : a < b) : rgL a b = .int a :: rgL (a + 1) b := by
  unfold rgL
  rw [show (b - a).toNat = (b - (a + 1)).toNat + 1 by omega, List.range_succ_eq_map, List.map_cons, List.map_map]
  congr 1
  · congr 1
    omega
  · apply List.map_congr_left
    intro k _
    show D.int (a + ((k + 1 : Nat) : Int)) = D.int (a + 1 + (k : Int))
    congr 1
    omega
theorem B62_ok {i : Int} (h : -1000000 ≤ i ∧ i ≤ 1000000) : B62 i = true := by
  rw [B62_iff]
  omega
theorem rg1_ok {j : Int} (h : -1000000 ≤ j ∧ j ≤ 1000000) : rg1D (.int j) = .ok (rgL 0 j) := by
  show (if B62 j = true then _ else _) = _
  rw [B62_ok h, if_pos rfl]
theorem rg2_ok {i j : Int} (h : -1000000 ≤ i ∧ i ≤ 1000000) (h' : -1000000 ≤ j ∧ j ≤ 1000000) : rg2D (.int i) (.int j) = .ok (rgL i j) := by
  show (if (B62 i && B62 j) = true then _ else _) = _
  rw [B62_ok h, B62_ok h']; rfl
/-- a list's member at a number by the length -/
theorem ix_mem {ds : List D} (h : ds ≠ []) (c : Int) : ∃ d ∈ ds, ixD (.lst ds) (.int (c % (ds.length : Int))) = .ok d := by
  have hl : 0 < ds.length := List.length_pos_iff.mpr h
  have h1 := Int.emod_nonneg c (show (ds.length : Int) ≠ 0 by omega)
  have h2 := Int.emod_lt_of_pos c (show (0 : Int) < (ds.length : Int) by omega)
  generalize c % (ds.length : Int) = i at h1 h2
  obtain ⟨k, rfl⟩ : ∃ k : Nat, i = (k : Int) := ⟨i.toNat, by omega⟩
  have hk : k < ds.length := by omega
  refine ⟨ds[k], List.getElem_mem hk, ?_⟩
  have e : atI ds (k : Int) = some ds[k] := atI_nat (List.getElem?_eq_getElem hk)
  simp only [ixD, e]
end Cn

namespace Cn
open PySem PySem.Spec PyProof.Rows L2
abbrev iN (n : Nat) : D := .int (n : Int)
abbrev nl (l : List Nat) : D := .lst (l.map iN)
abbrev nll (l : List (List Nat)) : D := .lst (l.map nl)
def mexF (l : List Nat) : Nat → Nat → Nat
  | 0, n => n
  | f + 1, n => if n ∈ l then mexF l f (n + 1) else n
theorem mexF_ge (l : List Nat) : ∀ f n, n ≤ mexF l f n
  | 0, n => Nat.le_refl n
  | f + 1, n => by
    unfold mexF
    split
    · have := mexF_ge l f (n + 1); omega
    · exact Nat.le_refl n
theorem mexF_le (l : List Nat) : ∀ f n, mexF l f n ≤ n + f
  | 0, n => Nat.le_refl n
  | f + 1, n => by
    unfold mexF
    split
    · have := mexF_le l f (n + 1); omega
    · omega
theorem mexF_mem (l : List Nat) : ∀ f n k, n ≤ k → k < mexF l f n → k ∈ l
  | 0, n, k, h, h' => by unfold mexF at h'; omega
  | f + 1, n, k, h, h' => by
    unfold mexF at h'
    split at h'
    · rename_i hn
      by_cases e : k = n
      · subst e; exact hn
      · exact mexF_mem l f (n + 1) k (by omega) h'
    · omega
theorem mexF_not (l : List Nat) : ∀ f n, mexF l f n < n + f → mexF l f n ∉ l
  | 0, n, h => by unfold mexF at h; omega
  | f + 1, n, h => by
    unfold mexF at h ⊢
    split
    · rename_i hn
      rw [if_pos hn] at h
      exact mexF_not l f (n + 1) (by omega)
    · assumption
def maxL : List Nat → Nat
  | [] => 0
  | a :: r => max a (maxL r)
theorem le_maxL : ∀ {l : List Nat} {a : Nat}, a ∈ l → a ≤ maxL l
  | b :: r, a, h => by
    unfold maxL
    rcases List.mem_cons.mp h with rfl | h
    · omega
    · have := le_maxL h; omega
/-- the least number that is none of them -/
def mexL (l : List Nat) : Nat := mexF l (maxL l + 1) 0
theorem mexL_mem {l : List Nat} {k : Nat} (h : k < mexL l) : k ∈ l := mexF_mem l _ 0 k (by omega) h
theorem mexL_not (l : List Nat) : mexL l ∉ l := by
  intro h
  have h1 := le_maxL h
  exact mexF_not l (maxL l + 1) 0 (by unfold mexL at h1; omega) h
theorem mexL_uniq {l : List Nat} {n : Nat} (h1 : ∀ k < n, k ∈ l) (h2 : n ∉ l) : n = mexL l := by
  have a := mexL_not l
  by_cases e : n < mexL l
  · exact (h2 (mexL_mem e)).elim
  · by_cases e2 : mexL l < n
    · exact (a (h1 _ e2)).elim
    · omega
theorem mexL_congr {l l' : List Nat} (h : ∀ n, n ∈ l ↔ n ∈ l') : mexL l = mexL l' :=
  mexL_uniq (fun k hk => (h k).mp (mexL_mem hk)) fun z => mexL_not l ((h _).mpr z)
theorem whileF_mex {f : EF} {F : SFn} {st : Nat → En} {l : List Nat} (hc : ∀ n, f (st n) = .ok (.bl (decide (n ∈ l)))) (hb : ∀ n, F (st n) = .nx (st (n + 1))) :
    ∀ (fuel n : Nat), n ≤ mexL l → mexL l < n + fuel → whileF f F fuel (st n) = .nx (st (mexL l))
  | 0, n, h, h' => by omega
  | fuel + 1, n, h, h' => by
    rw [whileF_s, hc n]
    by_cases e : n ∈ l
    · rw [decide_eq_true e, rOut_ok]
      dsimp only
      rw [hb n]
      dsimp only
      have hne : n ≠ mexL l := fun z => mexL_not l (z ▸ e)
      exact whileF_mex hc hb fuel (n + 1) (by omega) (by omega)
    · rw [decide_eq_false e, rOut_ok]
      dsimp only
      have : n = mexL l := by
        by_cases z : n < mexL l
        · exact (e (mexL_mem z)).elim
        · omega
      rw [this]
theorem forL_drop {J : Type} {ga : D → En → Option En} {F : SFn} {ds : List D} {st : Nat → J → En} (h : ∀ (i : Nat) (hi : i < ds.length) (s : J), ∃ e s', ga ds[i] (st i s) = some e ∧ F e = .nx (st (i + 1) s')) :
    ∀ (d k : Nat) (s : J), k + d = ds.length → ∃ s', forL ga F (ds.drop k) (st k s) = .nx (st ds.length s')
  | 0, k, s, hk => by
    obtain rfl : k = ds.length := by omega
    rw [List.drop_length]
    exact ⟨s, rfl⟩
  | d + 1, k, s, hk => by
    have hi : k < ds.length := by omega
    obtain ⟨e, s1, h1, h2⟩ := h k hi s
    obtain ⟨s2, ih⟩ := forL_drop h d (k + 1) s1 (by omega)
    refine ⟨s2, ?_⟩
    rw [List.drop_eq_getElem_cons hi, forL_cons, h1]
    dsimp only
    rw [h2]
    exact ih
theorem forL_ix {J : Type} {ga : D → En → Option En} {F : SFn} (ds : List D) (st : Nat → J → En) (s : J) (h : ∀ (i : Nat) (hi : i < ds.length) (s : J), ∃ e s', ga ds[i] (st i s) = some e ∧ F e = .nx (st (i + 1) s')) :
    ∃ s', forL ga F ds (st 0 s) = .nx (st ds.length s') := forL_drop h ds.length 0 s (by omega)
/-- a comprehension without a condition -/
theorem compL_all {j : Nat} {e : EF} {env : En} {g : D → D} : ∀ {ds : List D}, (∀ d ∈ ds, e (env.set j (.val d)) = .ok (g d)) → compL j eYes e env ds = .ok (ds.map g)
  | [], _ => rfl
  | d :: r, h => by
    rw [compL_cons, show eYes (env.set j (.val d)) = .ok (.bl true) from rfl]
    dsimp only
    rw [h d (List.mem_cons_self ..)]
    dsimp only
    rw [compL_all (g := g) (fun x hx => h x (List.mem_cons_of_mem _ hx)), bind_ok, List.map_cons]
/-- .. and with one -/
theorem compL_if {j : Nat} {t e : EF} {env : En} {p : D → Bool} {g : D → D} : ∀ {ds : List D}, (∀ d ∈ ds, t (env.set j (.val d)) = .ok (.bl (p d))) → (∀ d ∈ ds, p d = true → e (env.set j (.val d)) = .ok (g d)) → compL j t e env ds = .ok ((ds.filter p).map g)
  | [], _, _ => rfl
  | d :: r, h, h' => by
    rw [compL_cons, h d (List.mem_cons_self ..)]
    have ih := compL_if (p := p) (g := g) (fun x hx => h x (List.mem_cons_of_mem _ hx)) (fun x hx => h' x (List.mem_cons_of_mem _ hx))
    cases hp : p d with
    | true =>
      dsimp only
      rw [h' d (List.mem_cons_self ..) hp]
      dsimp only
      rw [ih, bind_ok, List.filter_cons_of_pos hp, List.map_cons]
    | false =>
      dsimp only
      rw [ih, List.filter_cons_of_neg (by rw [hp]; exact Bool.false_ne_true)]
def ovr (f : Nat → Nat) (s : List Nat) : Nat := s.foldl (fun t p => t ^^^ f p) 0
theorem ovr_from (f : Nat → Nat) : ∀ (s : List Nat) (t : Nat), s.foldl (fun t p => t ^^^ f p) t = t ^^^ ovr f s
  | [], t => by simp [ovr]
  | a :: r, t => by
    have h1 := ovr_from f r (t ^^^ f a)
    have h2 := ovr_from f r (0 ^^^ f a)
    rw [List.foldl_cons, h1]
    show _ = t ^^^ (List.foldl _ (0 ^^^ f a) r)
    rw [h2, Nat.zero_xor, Nat.xor_assoc]
theorem ovr_nil (f : Nat → Nat) : ovr f [] = 0 := rfl
theorem ovr_cons (f : Nat → Nat) (a : Nat) (r : List Nat) : ovr f (a :: r) = f a ^^^ ovr f r := by
  show List.foldl _ (0 ^^^ f a) r = _
  rw [ovr_from, Nat.zero_xor]
theorem ovr_append (f : Nat → Nat) : ∀ (s r : List Nat), ovr f (s ++ r) = ovr f s ^^^ ovr f r
  | [], r => by rw [List.nil_append, ovr_nil, Nat.zero_xor]
  | a :: s, r => by rw [List.cons_append, ovr_cons, ovr_cons, ovr_append f s r, Nat.xor_assoc]
theorem ovr_congr {f g : Nat → Nat} : ∀ {s : List Nat}, (∀ p ∈ s, f p = g p) → ovr f s = ovr g s
  | [], _ => rfl
  | a :: r, h => by rw [ovr_cons, ovr_cons, h a (List.mem_cons_self ..), ovr_congr fun p hp => h p (List.mem_cons_of_mem _ hp)]
/-- where a sum is not nought, one of its numbers gets less by it -/
theorem ovr_less {f : Nat → Nat} {s : List Nat} (h : ovr f s ≠ 0) : ∃ p ∈ s, f p ^^^ ovr f s < f p := by
  generalize ht : ovr f s = t at h
  obtain ⟨i, hi, hb⟩ := Nat.exists_ge_and_testBit_of_ge_two_pow (Nat.log2_self_le h)
  have hlt : t < 2 ^ (t.log2 + 1) := Nat.lt_log2_self
  have hi2 : i = t.log2 := by
    by_cases e : t.log2 + 1 ≤ i
    · have : t < 2 ^ i := Nat.lt_of_lt_of_le hlt (Nat.pow_le_pow_right (by decide) e)
      rw [Nat.testBit_lt_two_pow this] at hb
      cases hb
    · omega
  have hup : ∀ j, i < j → t.testBit j = false := fun j hj => Nat.testBit_lt_two_pow (Nat.lt_of_lt_of_le hlt (Nat.pow_le_pow_right (by decide) (by omega)))
  have hex : ∀ (r : List Nat), (ovr f r).testBit i = true → ∃ p ∈ r, (f p).testBit i = true := by
    intro r
    induction r with
    | nil => intro z; rw [ovr_nil, Nat.zero_testBit] at z; cases z
    | cons a r ih =>
      intro z
      rw [ovr_cons, Nat.testBit_xor] at z
      cases ha : (f a).testBit i with
      | true => exact ⟨a, List.mem_cons_self .., ha⟩
      | false =>
        rw [ha, Bool.false_xor] at z
        obtain ⟨p, h1, h2⟩ := ih z
        exact ⟨p, List.mem_cons_of_mem _ h1, h2⟩
  obtain ⟨p, hp, hpb⟩ := hex s (by rw [ht]; exact hb)
  refine ⟨p, hp, ?_⟩
  generalize f p = a at hpb
  rw [Nat.testBit_eq_decide_div_mod_eq, decide_eq_true_eq] at hpb hb
  have e1 : (a ^^^ t) / 2 ^ (i + 1) = a / 2 ^ (i + 1) := by
    rw [Nat.xor_div_two_pow, Nat.div_eq_of_lt (show t < 2 ^ (i + 1) by rw [hi2]; exact hlt), Nat.xor_zero]
  have e2 : (a ^^^ t) / 2 ^ i % 2 = 0 := by
    rw [Nat.xor_div_two_pow]
    have o1 := @Nat.xor_mod_two_eq_one (a / 2 ^ i) (t / 2 ^ i)
    omega
  have e3 : ∀ x : Nat, x / 2 ^ (i + 1) = x / 2 ^ i / 2 := fun x => by rw [Nat.pow_succ, Nat.div_div_eq_div_mul]
  rw [e3, e3] at e1
  refine Nat.lt_of_not_le fun hle => ?_
  have := Nat.div_le_div_right (c := 2 ^ i) hle
  omega
/-- the numbers of the places, by the shapes that end at each -/
def stepN (S : Nat → List (List Nat)) (l : List Nat) : Nat := mexL ((S l.length).map fun s => ovr (fun p => l.getD p 0) s.dropLast)
def nums (S : Nat → List (List Nat)) : Nat → List Nat
  | 0 => []
  | n + 1 => nums S n ++ [stepN S (nums S n)]
theorem nums_len (S : Nat → List (List Nat)) : ∀ n, (nums S n).length = n
  | 0 => rfl
  | n + 1 => by
    unfold nums
    rw [List.length_append, nums_len S n]; rfl
def num1 (S : Nat → List (List Nat)) (p : Nat) : Nat := stepN S (nums S p)
theorem nums_get (S : Nat → List (List Nat)) : ∀ {n p : Nat}, p < n → (nums S n).getD p 0 = num1 S p
  | 0, p, h => by omega
  | n + 1, p, h => by
    unfold nums
    by_cases e : p < n
    · rw [List.getD_eq_getElem?_getD, List.getElem?_append_left (by rw [nums_len]; exact e), ← List.getD_eq_getElem?_getD, nums_get S e]
    · obtain rfl : p = n := by omega
      rw [List.getD_eq_getElem?_getD, List.getElem?_append_right (by rw [nums_len]; exact Nat.le_refl _), nums_len, Nat.sub_self]
      rfl
/-- what is asked of the shapes -/
def Shaped (S : Nat → List (List Nat)) (p : Nat) : Prop := ∀ s ∈ S p, s = s.dropLast ++ [p] ∧ ∀ q ∈ s.dropLast, q < p
theorem num1_eq {S : Nat → List (List Nat)} {p : Nat} (h : Shaped S p) : num1 S p = mexL ((S p).map fun s => ovr (num1 S) s.dropLast) := by
  unfold num1 stepN
  rw [nums_len]
  congr 1
  apply List.map_congr_left
  intro s hs
  exact ovr_congr fun q hq => nums_get S ((h s hs).2 q hq)
/-- each lesser number is reached, the number itself is not -/
theorem num1_reach {S : Nat → List (List Nat)} {p v : Nat} (h : Shaped S p) (hv : v < num1 S p) : ∃ s ∈ S p, ovr (num1 S) s = num1 S p ^^^ v := by
  rw [num1_eq h] at hv
  obtain ⟨s, hs, e⟩ := List.mem_map.mp (mexL_mem hv)
  refine ⟨s, hs, ?_⟩
  rw [(h s hs).1, ovr_append, ovr_cons, ovr_nil, Nat.xor_zero, e, Nat.xor_comm]
theorem num1_off {S : Nat → List (List Nat)} {p : Nat} (h : Shaped S p) {s : List Nat} (hs : s ∈ S p) : ovr (num1 S) s ≠ 0 := by
  intro z
  rw [(h s hs).1, ovr_append, ovr_cons, ovr_nil, Nat.xor_zero] at z
  have e : ovr (num1 S) s.dropLast = num1 S p := by
    have := congrArg (· ^^^ num1 S p) z
    simpa [Nat.xor_assoc] using this
  have a := mexL_not ((S p).map fun s => ovr (num1 S) s.dropLast)
  rw [← num1_eq h] at a
  exact a (List.mem_map.mpr ⟨s, hs, e⟩)
theorem ix_nl {l : List Nat} {p : Nat} (h : p < l.length) : ixD (nl l) (iN p) = .ok (iN (l.getD p 0)) := by
  have e : atI (l.map iN) (p : Int) = some (iN (l.getD p 0)) := by
    refine atI_nat ?_
    rw [List.getElem?_map, List.getD_eq_getElem?_getD, List.getElem?_eq_getElem h]
    rfl
  simp only [ixD, e]
theorem xor_iN {a b : Nat} : xorD (iN a) (iN b) = .ok (iN (a ^^^ b)) := by
  rw [xorD_pos (by omega)]; rfl
end Cn

/-! the field, by halves -/
namespace Nf
def F : Nat → Type
  | 0 => Bool
  | k + 1 => F k × F k
def zero : (k : Nat) → F k
  | 0 => false
  | k + 1 => (zero k, zero k)
def one : (k : Nat) → F k
  | 0 => true
  | k + 1 => (zero k, one k)
def top : (k : Nat) → F k
  | 0 => true
  | k + 1 => (top k, zero k)
def add : (k : Nat) → F k → F k → F k
  | 0, x, y => Bool.xor x y
  | k + 1, (x1, x0), (y1, y0) => (add k x1 y1, add k x0 y0)
def mul : (k : Nat) → F k → F k → F k
  | 0, x, y => Bool.and x y
  | k + 1, (x1, x0), (y1, y0) => (add k (mul k x1 y1) (add k (mul k x1 y0) (mul k x0 y1)), add k (mul k x0 y0) (mul k (top k) (mul k x1 y1)))
theorem add_comm : (k : Nat) → (x y : F k) → add k x y = add k y x
  | 0, x, y => Bool.xor_comm x y
  | k + 1, (x1, x0), (y1, y0) => by
    show (add k x1 y1, add k x0 y0) = (add k y1 x1, add k y0 x0)
    rw [add_comm k x1 y1, add_comm k x0 y0]
theorem add_assoc : (k : Nat) → (x y z : F k) → add k (add k x y) z = add k x (add k y z)
  | 0, x, y, z => Bool.xor_assoc x y z
  | k + 1, (x1, x0), (y1, y0), (z1, z0) => by
    show (add k (add k x1 y1) z1, add k (add k x0 y0) z0) = (add k x1 (add k y1 z1), add k x0 (add k y0 z0))
    rw [add_assoc k x1, add_assoc k x0]
theorem add_left_comm (k : Nat) (x y z : F k) : add k x (add k y z) = add k y (add k x z) := by
  rw [← add_assoc, add_comm k x y, add_assoc]
theorem add_self : (k : Nat) → (x : F k) → add k x x = zero k
  | 0, x => Bool.xor_self x
  | k + 1, (x1, x0) => by
    show (add k x1 x1, add k x0 x0) = (zero k, zero k)
    rw [add_self k x1, add_self k x0]
theorem zero_add : (k : Nat) → (x : F k) → add k (zero k) x = x
  | 0, x => Bool.false_xor x
  | k + 1, (x1, x0) => by
    show (add k (zero k) x1, add k (zero k) x0) = (x1, x0)
    rw [zero_add k x1, zero_add k x0]
theorem add_zero (k : Nat) (x : F k) : add k x (zero k) = x := by rw [add_comm, zero_add]
theorem add_add (k : Nat) (x y : F k) : add k x (add k x y) = y := by rw [← add_assoc, add_self, zero_add]
theorem mul_comm : (k : Nat) → (x y : F k) → mul k x y = mul k y x
  | 0, x, y => Bool.and_comm x y
  | k + 1, (x1, x0), (y1, y0) => by
    show (add k (mul k x1 y1) (add k (mul k x1 y0) (mul k x0 y1)), add k (mul k x0 y0) (mul k (top k) (mul k x1 y1))) =
      (add k (mul k y1 x1) (add k (mul k y1 x0) (mul k y0 x1)), add k (mul k y0 x0) (mul k (top k) (mul k y1 x1)))
    rw [mul_comm k x1 y1, mul_comm k x1 y0, mul_comm k x0 y1, mul_comm k x0 y0, add_comm k (mul k y0 x1)]
theorem bool_and_xor (x y z : Bool) : Bool.and x (Bool.xor y z) = Bool.xor (Bool.and x y) (Bool.and x z) := by
  cases x <;> cases y <;> cases z <;> rfl
theorem mul_add : (k : Nat) → (x y z : F k) → mul k x (add k y z) = add k (mul k x y) (mul k x z)
  | 0, x, y, z => bool_and_xor x y z
  | k + 1, (x1, x0), (y1, y0), (z1, z0) => by
    show (add k (mul k x1 (add k y1 z1)) (add k (mul k x1 (add k y0 z0)) (mul k x0 (add k y1 z1))), add k (mul k x0 (add k y0 z0)) (mul k (top k) (mul k x1 (add k y1 z1)))) =
      (add k (add k (mul k x1 y1) (add k (mul k x1 y0) (mul k x0 y1))) (add k (mul k x1 z1) (add k (mul k x1 z0) (mul k x0 z1))), add k (add k (mul k x0 y0) (mul k (top k) (mul k x1 y1))) (add k (mul k x0 z0) (mul k (top k) (mul k x1 z1))))
    simp only [mul_add k, add_assoc k, add_comm k, add_left_comm k]
theorem add_mul (k : Nat) (x y z : F k) : mul k (add k y z) x = add k (mul k y x) (mul k z x) := by
  rw [mul_comm k (add k y z), mul_add, mul_comm k x y, mul_comm k x z]
theorem mul_assoc : (k : Nat) → (x y z : F k) → mul k (mul k x y) z = mul k x (mul k y z)
  | 0, x, y, z => Bool.and_assoc x y z
  | k + 1, (x1, x0), (y1, y0), (z1, z0) => by
    have A := mul_assoc k
    have L : ∀ a b c : F k, mul k a (mul k b c) = mul k b (mul k a c) := fun a b c => by rw [← A, mul_comm k a b, A]
    have e1 : ∀ a b c d e : F k, (a, b) = ((c, d) : F k × F k) → (a, b) = ((c, d) : F k × F k) := fun _ _ _ _ _ h => h
    show (add k (mul k (add k (mul k x1 y1) (add k (mul k x1 y0) (mul k x0 y1))) z1) (add k (mul k (add k (mul k x1 y1) (add k (mul k x1 y0) (mul k x0 y1))) z0) (mul k (add k (mul k x0 y0) (mul k (top k) (mul k x1 y1))) z1)),
        add k (mul k (add k (mul k x0 y0) (mul k (top k) (mul k x1 y1))) z0) (mul k (top k) (mul k (add k (mul k x1 y1) (add k (mul k x1 y0) (mul k x0 y1))) z1))) =
      (add k (mul k x1 (add k (mul k y1 z1) (add k (mul k y1 z0) (mul k y0 z1)))) (add k (mul k x1 (add k (mul k y0 z0) (mul k (top k) (mul k y1 z1)))) (mul k x0 (add k (mul k y1 z1) (add k (mul k y1 z0) (mul k y0 z1))))),
        add k (mul k x0 (add k (mul k y0 z0) (mul k (top k) (mul k y1 z1)))) (mul k (top k) (mul k x1 (add k (mul k y1 z1) (add k (mul k y1 z0) (mul k y0 z1))))))
    simp only [mul_add k, add_mul k, A]
    refine Prod.ext ?_ ?_
    · show add k _ _ = add k _ _
      simp only [L x1 (top k)]
      simp only [add_assoc k, add_comm k, add_left_comm k]
    · show add k _ _ = add k _ _
      simp only [L x0 (top k)]
      simp only [add_assoc k, add_comm k, add_left_comm k]
theorem zero_mul : (k : Nat) → (x : F k) → mul k (zero k) x = zero k := fun k x => by
  have h : mul k (zero k) x = add k (mul k (zero k) x) (mul k (zero k) x) := by
    rw [← add_mul, add_self]
  rw [add_self] at h
  exact h
theorem mul_zero (k : Nat) (x : F k) : mul k x (zero k) = zero k := by rw [mul_comm, zero_mul]
theorem one_mul : (k : Nat) → (x : F k) → mul k (one k) x = x
  | 0, x => Bool.true_and x
  | k + 1, (x1, x0) => by
    show (add k (mul k (zero k) x1) (add k (mul k (zero k) x0) (mul k (one k) x1)), add k (mul k (one k) x0) (mul k (top k) (mul k (zero k) x1))) = (x1, x0)
    rw [zero_mul, zero_mul, one_mul k x1, one_mul k x0, mul_zero, zero_add, zero_add, add_zero]
/-! numbers -/
def W (k : Nat) : Nat := 2 ^ 2 ^ k
theorem W_pos (k : Nat) : 0 < W k := Nat.two_pow_pos _
theorem W_succ (k : Nat) : W (k + 1) = W k * W k := by
  unfold W
  rw [Nat.pow_succ 2 k, Nat.pow_mul, Nat.pow_two]
def val : (k : Nat) → F k → Nat
  | 0, x => x.toNat
  | k + 1, (x1, x0) => val k x1 * W k + val k x0
def un : (k : Nat) → Nat → F k
  | 0, a => a % 2 == 1
  | k + 1, a => (un k (a / W k), un k (a % W k))
theorem val_lt : (k : Nat) → (x : F k) → val k x < W k
  | 0, x => by cases x <;> decide
  | k + 1, (x1, x0) => by
    have h1 := val_lt k x1
    have h0 := val_lt k x0
    rw [W_succ]
    show val k x1 * W k + val k x0 < W k * W k
    have h2 : (val k x1 + 1) * W k ≤ W k * W k := Nat.mul_le_mul_right _ h1
    rw [Nat.add_mul, Nat.one_mul] at h2
    omega
theorem un_val : (k : Nat) → (x : F k) → un k (val k x) = x
  | 0, x => by cases x <;> rfl
  | k + 1, (x1, x0) => by
    have h0 := val_lt k x0
    show (un k ((val k x1 * W k + val k x0) / W k), un k ((val k x1 * W k + val k x0) % W k)) = (x1, x0)
    rw [Nat.mul_comm, Nat.mul_add_div (W_pos k), Nat.div_eq_of_lt h0, Nat.add_zero, Nat.mul_add_mod, Nat.mod_eq_of_lt h0, un_val k x1, un_val k x0]
theorem val_un : (k : Nat) → (a : Nat) → a < W k → val k (un k a) = a
  | 0, a, h => by
    have : a = 0 ∨ a = 1 := by
      have : a < 2 := h
      omega
    rcases this with rfl | rfl <;> rfl
  | k + 1, a, h => by
    rw [W_succ] at h
    show val k (un k (a / W k)) * W k + val k (un k (a % W k)) = a
    rw [val_un k _ (Nat.div_lt_of_lt_mul h), val_un k _ (Nat.mod_lt _ (W_pos k)), Nat.mul_comm]
    exact Nat.div_add_mod a (W k)
theorem un_xor : (k : Nat) → (a b : Nat) → un k (a ^^^ b) = add k (un k a) (un k b)
  | 0, a, b => by
    show ((a ^^^ b) % 2 == 1) = Bool.xor (a % 2 == 1) (b % 2 == 1)
    have o1 := @Nat.xor_mod_two_eq_one a b
    have h1 : a % 2 = 0 ∨ a % 2 = 1 := by omega
    have h2 : b % 2 = 0 ∨ b % 2 = 1 := by omega
    have h3 : (a ^^^ b) % 2 = 0 ∨ (a ^^^ b) % 2 = 1 := by omega
    rcases h1 with h1 | h1 <;> rcases h2 with h2 | h2 <;> rcases h3 with h3 | h3 <;> rw [h1, h2, h3] <;> first | rfl | (exfalso; omega)
  | k + 1, a, b => by
    show (un k ((a ^^^ b) / W k), un k ((a ^^^ b) % W k)) = (add k (un k (a / W k)) (un k (b / W k)), add k (un k (a % W k)) (un k (b % W k)))
    rw [← un_xor k, ← un_xor k]
    unfold W
    rw [Nat.xor_div_two_pow, Nat.xor_mod_two_pow]
theorem val_add (k : Nat) (x y : F k) : val k (add k x y) = val k x ^^^ val k y := by
  have h := un_xor k (val k x) (val k y)
  rw [un_val, un_val] at h
  rw [← h, val_un]
  exact Nat.xor_lt_two_pow (val_lt k x) (val_lt k y)
theorem un_zero : (k : Nat) → un k 0 = zero k
  | 0 => rfl
  | k + 1 => by
    show (un k (0 / W k), un k (0 % W k)) = (zero k, zero k)
    rw [Nat.zero_div, Nat.zero_mod, un_zero k]
theorem W_gt (k : Nat) : 1 < W k := by
  unfold W
  have : 0 < 2 ^ k := Nat.two_pow_pos k
  exact Nat.one_lt_two_pow (by omega)
theorem un_one : (k : Nat) → un k 1 = one k
  | 0 => rfl
  | k + 1 => by
    show (un k (1 / W k), un k (1 % W k)) = (zero k, one k)
    rw [Nat.div_eq_of_lt (W_gt k), Nat.mod_eq_of_lt (W_gt k), un_zero k, un_one k]
theorem val_zero (k : Nat) : val k (zero k) = 0 := by rw [← un_zero, val_un k 0 (W_pos k)]
/-- the product of numbers below W k -/
def nim (k a b : Nat) : Nat := val k (mul k (un k a) (un k b))
theorem nim_lt (k a b : Nat) : nim k a b < W k := val_lt k _
theorem nim_comm (k a b : Nat) : nim k a b = nim k b a := by unfold nim; rw [mul_comm]
theorem nim_assoc (k a b c : Nat) : nim k (nim k a b) c = nim k a (nim k b c) := by
  unfold nim
  rw [un_val, un_val, mul_assoc]
theorem nim_add (k a b c : Nat) : nim k a (b ^^^ c) = nim k a b ^^^ nim k a c := by
  unfold nim
  rw [un_xor, mul_add, val_add]
theorem nim_zero (k a : Nat) : nim k 0 a = 0 := by unfold nim; rw [un_zero, zero_mul, val_zero]
theorem nim_one (k a : Nat) (h : a < W k) : nim k 1 a = a := by unfold nim; rw [un_one, one_mul, val_un k a h]
/-- of lesser numbers -/
theorem nim_low (k a b : Nat) (ha : a < W k) (hb : b < W k) : nim (k + 1) a b = nim k a b := by
  unfold nim
  show val (k + 1) (mul (k + 1) (un k (a / W k), un k (a % W k)) (un k (b / W k), un k (b % W k))) = _
  rw [Nat.div_eq_of_lt ha, Nat.div_eq_of_lt hb, Nat.mod_eq_of_lt ha, Nat.mod_eq_of_lt hb, un_zero]
  show val k (add k (mul k (zero k) (zero k)) (add k (mul k (zero k) (un k b)) (mul k (un k a) (zero k)))) * W k + val k (add k (mul k (un k a) (un k b)) (mul k (top k) (mul k (zero k) (zero k)))) = _
  simp only [zero_mul, mul_zero, add_zero, val_zero, Nat.zero_mul, Nat.zero_add]
theorem val_top : (k : Nat) → val k (top k) = W k / 2
  | 0 => rfl
  | k + 1 => by
    show val k (top k) * W k + val k (zero k) = W (k + 1) / 2
    rw [val_top k, val_zero, Nat.add_zero, W_succ]
    have e : W k = 2 * (W k / 2) := by
      unfold W
      have : 0 < 2 ^ k := Nat.two_pow_pos k
      obtain ⟨m, hm⟩ : ∃ m, 2 ^ k = m + 1 := ⟨2 ^ k - 1, by omega⟩
      rw [hm, Nat.pow_succ]
      omega
    generalize W k / 2 = c at *
    rw [e]
    have : 2 * c * (2 * c) = 2 * (c * (2 * c)) := by rw [Nat.mul_assoc]
    omega
/-- by halves, three products and one by the top figure -/
theorem nim_halves (k a b : Nat) : nim (k + 1) a b = (nim k (a / W k ^^^ a % W k) (b / W k ^^^ b % W k) ^^^ nim k (a % W k) (b % W k)) * W k + (nim k (a % W k) (b % W k) ^^^ nim k (nim k (a / W k) (b / W k)) (W k / 2)) := by
  unfold nim
  show val (k + 1) (mul (k + 1) (un k (a / W k), un k (a % W k)) (un k (b / W k), un k (b % W k))) = _
  generalize a / W k = a1
  generalize a % W k = a0
  generalize b / W k = b1
  generalize b % W k = b0
  show val k (add k (mul k (un k a1) (un k b1)) (add k (mul k (un k a1) (un k b0)) (mul k (un k a0) (un k b1)))) * W k + val k (add k (mul k (un k a0) (un k b0)) (mul k (top k) (mul k (un k a1) (un k b1)))) = _
  have e : un k (W k / 2) = top k := by rw [← val_top, un_val]
  rw [e, un_val, ← val_add, ← val_add, un_xor, un_xor, mul_comm k (top k)]
  congr 3
  simp only [mul_add, add_mul, add_assoc]
  rw [add_comm k (mul k (un k a0) (un k b0)) (mul k (un k a0) (un k b0)), add_self, add_zero, add_comm k (mul k (un k a1) (un k b0))]
/-- the same by four products -/
theorem nim_four (k a b : Nat) : nim (k + 1) a b = (nim k (a / W k) (b / W k) ^^^ (nim k (a / W k) (b % W k) ^^^ nim k (a % W k) (b / W k))) * W k + (nim k (a % W k) (b % W k) ^^^ nim k (nim k (a / W k) (b / W k)) (W k / 2)) := by
  unfold nim
  show val (k + 1) (mul (k + 1) (un k (a / W k), un k (a % W k)) (un k (b / W k), un k (b % W k))) = _
  generalize a / W k = a1
  generalize a % W k = a0
  generalize b / W k = b1
  generalize b % W k = b0
  show val k (add k (mul k (un k a1) (un k b1)) (add k (mul k (un k a1) (un k b0)) (mul k (un k a0) (un k b1)))) * W k + val k (add k (mul k (un k a0) (un k b0)) (mul k (top k) (mul k (un k a1) (un k b1)))) = _
  have e : un k (W k / 2) = top k := by rw [← val_top, un_val]
  rw [e, un_val, ← val_add, ← val_add, ← val_add, mul_comm k (top k)]
end Nf

namespace Coin
open PySem PySem.Spec PyProof.Rows L2 Cn
def topS (i : Nat) : Stmt := PySem.Challenge.pw_coinrows_k13_whole_least_on_boards.main.body.getD i (.Pass ⟨0, 0, 0, 0⟩)
abbrev s_asked_number : Stmt := topS 8
abbrev N_asked_number : List Str := ["number"]
theorem sc_asked_number : FnScope N_asked_number ["number"] (defScope s_asked_number) := ⟨rfl, rfl, rfl, by decide +kernel, rfl, by decide +kernel, by decide +kernel⟩
abbrev s_product : Stmt := topS 9
abbrev N_product : List Str := ["one", "two", "base", "lower", "high", "low", "mixed"]
theorem sc_product : FnScope N_product ["one", "two", "base"] (defScope s_product) := ⟨rfl, rfl, rfl, by decide +kernel, rfl, by decide +kernel, by decide +kernel⟩
abbrev s_times : Stmt := topS 10
abbrev N_times : List Str := ["one", "two"]
theorem sc_times : FnScope N_times ["one", "two"] (defScope s_times) := ⟨rfl, rfl, rfl, by decide +kernel, rfl, by decide +kernel, by decide +kernel⟩
abbrev s_asked_rule : Stmt := topS 13
abbrev N_asked_rule : List Str := ["rule", "most"]
theorem sc_asked_rule : FnScope N_asked_rule ["rule"] (defScope s_asked_rule) := ⟨rfl, rfl, rfl, by decide +kernel, rfl, by decide +kernel, by decide +kernel⟩
abbrev s_picks : Stmt := topS 14
abbrev N_picks : List Str := ["count", "below", "one", "found", "two"]
theorem sc_picks : FnScope N_picks ["count", "below"] (defScope s_picks) := ⟨rfl, rfl, rfl, by decide +kernel, rfl, by decide +kernel, by decide +kernel⟩
abbrev s_shapes : Stmt := topS 15
abbrev N_shapes : List Str := ["rule", "last", "found", "first", "least", "count", "pick"]
theorem sc_shapes : FnScope N_shapes ["rule", "last"] (defScope s_shapes) := ⟨rfl, rfl, rfl, by decide +kernel, rfl, by decide +kernel, by decide +kernel⟩
abbrev s_numbers : Stmt := topS 16
abbrev N_numbers : List Str := ["rule", "most", "found", "place", "reached", "shape", "number", "lower"]
theorem sc_numbers : FnScope N_numbers ["rule", "most"] (defScope s_numbers) := ⟨rfl, rfl, rfl, by decide +kernel, rfl, by decide +kernel, by decide +kernel⟩
abbrev s_board_number : Stmt := topS 19
abbrev N_board_number : List Str := ["rule_x", "rule_y", "x", "y"]
theorem sc_board_number : FnScope N_board_number ["rule_x", "rule_y", "x", "y"] (defScope s_board_number) := ⟨rfl, rfl, rfl, by decide +kernel, rfl, by decide +kernel, by decide +kernel⟩
abbrev s__law_cell_at : Stmt := topS 21
abbrev N__law_cell_at : List Str := ["script", "k"]
theorem sc__law_cell_at : FnScope N__law_cell_at ["script", "k"] (defScope s__law_cell_at) := ⟨rfl, rfl, rfl, by decide +kernel, rfl, by decide +kernel, by decide +kernel⟩
abbrev s__law_number : Stmt := topS 22
abbrev N__law_number : List Str := ["found"]
theorem sc__law_number : FnScope N__law_number ["found"] (defScope s__law_number) := ⟨rfl, rfl, rfl, by decide +kernel, rfl, by decide +kernel, by decide +kernel⟩
abbrev s__law_rule : Stmt := topS 23
abbrev N__law_rule : List Str := ["cell"]
theorem sc__law_rule : FnScope N__law_rule ["cell"] (defScope s__law_rule) := ⟨rfl, rfl, rfl, by decide +kernel, rfl, by decide +kernel, by decide +kernel⟩
abbrev s__law_shapes : Stmt := topS 24
abbrev N__law_shapes : List Str := ["rule", "last", "found", "many", "k", "one", "two"]
theorem sc__law_shapes : FnScope N__law_shapes ["rule", "last"] (defScope s__law_shapes) := ⟨rfl, rfl, rfl, by decide +kernel, rfl, by decide +kernel, by decide +kernel⟩
abbrev s__law_besides : Stmt := topS 25
abbrev N__law_besides : List Str := ["told", "xs", "ys", "total", "x", "y"]
theorem sc__law_besides : FnScope N__law_besides ["told", "xs", "ys"] (defScope s__law_besides) := ⟨rfl, rfl, rfl, by decide +kernel, rfl, by decide +kernel, by decide +kernel⟩
abbrev s_law : Stmt := topS 26
abbrev N_law : List Str := ["script", "rule_x", "rule_y", "last_x", "last_y", "told", "x", "row", "y", "found", "seen", "xs", "ys", "least"]
theorem sc_law : FnScope N_law ["script"] (defScope s_law) := ⟨rfl, rfl, rfl, by decide +kernel, rfl, by decide +kernel, by decide +kernel⟩
def b_asked_number : SFn :=
  (sIf (eOr (eOp ltD (eV 0) (eC (.int 0))) (eOp geD (eV 0) (eC (.int 65536))))
    (sRaise "NoNumber")
    sNil)
def fn_asked_number : List D → R D := runF 1 b_asked_number
def b_product (rec : List D → R D) : SFn :=
  (sSeq (sIf (eOr (eOp ltD (eV 0) (eC (.int 2))) (eOp ltD (eV 1) (eC (.int 2))))
    (sRet (eOp mulD (eV 0) (eV 1)))
    sNil)
    (sSeq (sAsg 3 (eUn lowerD (eV 2)))
    (sSeq (sIf (eAnd (eOp ltD (eV 0) (eV 2)) (eOp ltD (eV 1) (eV 2)))
    (sRet (eCall rec (aCons (eV 0) (aCons (eV 1) (aCons (eV 3) aNil)))))
    sNil)
    (sSeq (sAsg 4 (eCall rec (aCons (eOp fdivD (eV 0) (eV 2)) (aCons (eOp fdivD (eV 1) (eV 2)) (aCons (eV 3) aNil)))))
    (sSeq (sAsg 5 (eCall rec (aCons (eOp modD (eV 0) (eV 2)) (aCons (eOp modD (eV 1) (eV 2)) (aCons (eV 3) aNil)))))
    (sSeq (sAsg 6 (eCall rec (aCons (eOp xorD (eOp fdivD (eV 0) (eV 2)) (eOp modD (eV 0) (eV 2))) (aCons (eOp xorD (eOp fdivD (eV 1) (eV 2)) (eOp modD (eV 1) (eV 2))) (aCons (eV 3) aNil)))))
    (sRet (eOp addD (eOp mulD (eOp xorD (eV 6) (eV 5)) (eV 2)) (eOp xorD (eV 5) (eCall rec (aCons (eV 4) (aCons (eOp fdivD (eV 2) (eC (.int 2))) (aCons (eV 3) aNil)))))))))))))
def fn_product : Nat → List D → R D
  | 0 => fun _ => .stuck
  | n + 1 => runF 7 (b_product (fn_product n))
def b_times : SFn :=
  (sSeq (sExpr (eCall fn_asked_number (aCons (eV 0) aNil)))
    (sSeq (sExpr (eCall fn_asked_number (aCons (eV 1) aNil)))
    (sRet (eCall (fn_product 6) (aCons (eV 0) (aCons (eV 1) (aCons (eC (.int 256)) aNil)))))))
def fn_times : List D → R D := runF 2 b_times
def b_asked_rule : SFn :=
  (sSeq (sAsg 1 (eC (.int 0)))
    (sSeq (sIf (eOr (eOp eqD (eOp ixD (eV 0) (eC (.int 0))) (eC (.str "most"))) (eOp eqD (eOp ixD (eV 0) (eC (.int 0))) (eC (.str "just"))))
    (sAsg 1 (eC (.int 3)))
    sNil)
    (sSeq (sIf (eOp eqD (eOp ixD (eV 0) (eC (.int 0))) (eC (.str "run")))
    (sAsg 1 (eC (.int 40)))
    sNil)
    (sIf (eOr (eOp ltD (eOp ixD (eV 0) (eC (.int 1))) (eC (.int 1))) (eOp gtD (eOp ixD (eV 0) (eC (.int 1))) (eV 1)))
    (sRaise "NoRule")
    sNil))))
def fn_asked_rule : List D → R D := runF 2 b_asked_rule
def b_picks : SFn :=
  (sSeq (sIf (eOp eqD (eV 0) (eC (.int 0)))
    (sRet (eLst (aCons (eLst aNil) aNil)))
    sNil)
    (sSeq (sIf (eOp eqD (eV 0) (eC (.int 1)))
    (sRet (eComp (iR1 (eV 1)) 2 eYes (eLst (aCons (eV 2) aNil))))
    sNil)
    (sSeq (sOwn 3 (eLst aNil))
    (sSeq (sFor (iR1 (eV 1)) (tgN 2)
    (sFor (iR2 (eOp addD (eV 2) (eC (.int 1))) (eV 1)) (tgN 4)
    (sApp 3 (eLst (aCons (eV 2) (aCons (eV 4) aNil))))))
    (sRetO 3)))))
def fn_picks : List D → R D := runF 5 b_picks
def b_shapes : SFn :=
  (sSeq (sOwn 2 (eLst aNil))
    (sSeq (sIf (eOp eqD (eOp ixD (eV 0) (eC (.int 0))) (eC (.str "run")))
    (sSeq (sFor (iR3 (eV 1) (eOp max2D (eUn negD (eC (.int 1))) (eOp subD (eV 1) (eOp ixD (eV 0) (eC (.int 1))))) (eUn negD (eC (.int 1)))) (tgN 3)
    (sApp 2 (eOp lrD (eV 3) (eOp addD (eV 1) (eC (.int 1))))))
    (sRetO 2))
    sNil)
    (sSeq (sAsg 4 (eC (.int 1)))
    (sSeq (sIf (eOp eqD (eOp ixD (eV 0) (eC (.int 0))) (eC (.str "just")))
    (sAsg 4 (eOp ixD (eV 0) (eC (.int 1))))
    sNil)
    (sSeq (sFor (iR2 (eV 4) (eOp addD (eOp ixD (eV 0) (eC (.int 1))) (eC (.int 1)))) (tgN 5)
    (sFor (iL (eCall fn_picks (aCons (eOp subD (eV 5) (eC (.int 1))) (aCons (eV 1) aNil)))) (tgN 6)
    (sApp 2 (eOp addD (eV 6) (eLst (aCons (eV 1) aNil))))))
    (sRetO 2))))))
def fn_shapes : List D → R D := runF 7 b_shapes
def b_numbers : SFn :=
  (sSeq (sOwn 2 (eLst aNil))
    (sSeq (sFor (iR1 (eOp addD (eV 1) (eC (.int 1)))) (tgN 3)
    (sSeq (sOwn 4 (eC (.dct [])))
    (sSeq (sFor (iL (eCall fn_shapes (aCons (eV 0) (aCons (eV 3) aNil)))) (tgN 5)
    (sSeq (sAsg 6 (eC (.int 0)))
    (sSeq (sFor (iL (eSl (eV 5) oNone (oSome (eUn negD (eC (.int 1)))))) (tgN 7)
    (sAsg 6 (eOp xorD (eV 6) (eOp ixD (eO 2) (eV 7)))))
    (sPutD 4 (eV 6)))))
    (sSeq (sAsg 6 (eC (.int 0)))
    (sSeq (sWhile 100000 (eOp inD (eV 6) (eO 4))
    (sAsg 6 (eOp addD (eV 6) (eC (.int 1)))))
    (sApp 2 (eV 6)))))))
    (sRetO 2)))
def fn_numbers : List D → R D := runF 8 b_numbers
def b_board_number : SFn :=
  (sSeq (sExpr (eCall fn_asked_rule (aCons (eV 0) aNil)))
    (sSeq (sExpr (eCall fn_asked_rule (aCons (eV 1) aNil)))
    (sSeq (sIf (eOr (eOp ltD (eV 2) (eC (.int 0))) (eOr (eOp geD (eV 2) (eC (.int 16))) (eOr (eOp ltD (eV 3) (eC (.int 0))) (eOp geD (eV 3) (eC (.int 16))))))
    (sRaise "NoBoard")
    sNil)
    (sRet (eCall fn_times (aCons (eOp ixD (eCall fn_numbers (aCons (eV 0) (aCons (eV 2) aNil))) (eV 2)) (aCons (eOp ixD (eCall fn_numbers (aCons (eV 1) (aCons (eV 3) aNil))) (eV 3)) aNil)))))))
def fn_board_number : List D → R D := runF 4 b_board_number
def b__law_cell_at : SFn :=
  (sSeq (sIf (eOp ltD (eV 1) (eUn lenD (eV 0)))
    (sRet (eOp ixD (eV 0) (eV 1)))
    sNil)
    (sRet (eC (.int 0))))
def fn__law_cell_at : List D → R D := runF 2 b__law_cell_at
def b__law_number : SFn :=
  (sRet (eAnd (eUn (isiD "int") (eV 0)) (eAnd (eUn notD (eUn (isiD "bool") (eV 0))) (eChain leD ltD (eC (.int 0)) (eV 0) (eC (.int 65536))))))
def fn__law_number : List D → R D := runF 1 b__law_number
def b__law_rule : SFn :=
  (sSeq (sIf (eOp eqD (eOp modD (eV 0) (eC (.int 3))) (eC (.int 2)))
    (sRet (eTup (aCons (eC (.str "run")) (aCons (eOp addD (eC (.int 1)) (eOp modD (eOp fdivD (eV 0) (eC (.int 3))) (eC (.int 6)))) aNil))))
    sNil)
    (sRet (eTup (aCons (eOp ixD (eLst (aCons (eC (.str "most")) (aCons (eC (.str "just")) aNil))) (eOp modD (eV 0) (eC (.int 3)))) (aCons (eOp addD (eC (.int 1)) (eOp modD (eOp fdivD (eV 0) (eC (.int 3))) (eC (.int 3)))) aNil)))))
def fn__law_rule : List D → R D := runF 1 b__law_rule
def b__law_shapes : SFn :=
  (sSeq (sOwn 2 (eLst aNil))
    (sSeq (sFor (iR2 (eC (.int 1)) (eOp addD (eOp ixD (eV 0) (eC (.int 1))) (eC (.int 1)))) (tgN 3)
    (sIf (eOp eqD (eOp ixD (eV 0) (eC (.int 0))) (eC (.str "run")))
    (sIf (eOp leD (eV 3) (eOp addD (eV 1) (eC (.int 1))))
    (sApp 2 (eComp (iR1 (eV 3)) 4 eYes (eOp addD (eOp subD (eOp addD (eV 1) (eC (.int 1))) (eV 3)) (eV 4))))
    sNil)
    (sIf (eOr (eOp eqD (eOp ixD (eV 0) (eC (.int 0))) (eC (.str "most"))) (eOp eqD (eV 3) (eOp ixD (eV 0) (eC (.int 1)))))
    (sSeq (sIf (eOp eqD (eV 3) (eC (.int 1)))
    (sApp 2 (eLst (aCons (eV 1) aNil)))
    sNil)
    (sSeq (sIf (eOp eqD (eV 3) (eC (.int 2)))
    (sOwn 2 (eOp catD (eO 2) (eComp (iR1 (eV 1)) 5 eYes (eLst (aCons (eV 5) (aCons (eV 1) aNil))))))
    sNil)
    (sIf (eOp eqD (eV 3) (eC (.int 3)))
    (sFor (iR1 (eV 1)) (tgN 5)
    (sOwn 2 (eOp catD (eO 2) (eComp (iR2 (eOp addD (eV 5) (eC (.int 1))) (eV 1)) 6 eYes (eLst (aCons (eV 5) (aCons (eV 6) (aCons (eV 1) aNil))))))))
    sNil)))
    sNil)))
    (sRetO 2)))
def fn__law_shapes : List D → R D := runF 7 b__law_shapes
def b__law_besides : SFn :=
  (sSeq (sAsg 3 (eC (.int 0)))
    (sSeq (sFor (iL (eV 1)) (tgN 4)
    (sFor (iL (eV 2)) (tgN 5)
    (sIf (eOr (eOp neD (eV 4) (eOp ixD (eV 1) (eUn negD (eC (.int 1))))) (eOp neD (eV 5) (eOp ixD (eV 2) (eUn negD (eC (.int 1))))))
    (sAsg 3 (eOp xorD (eV 3) (eOp ixD (eOp ixD (eV 0) (eV 4)) (eV 5))))
    sNil)))
    (sRet (eV 3))))
def fn__law_besides : List D → R D := runF 6 b__law_besides
def b_law_2 : SFn :=
  (sSeq (sOwn 5 (eLst aNil))
    (sSeq (sFor (iR1 (eOp addD (eV 3) (eC (.int 1)))) (tgN 6)
    (sSeq (sAsg 7 (eComp (iR1 (eOp addD (eV 4) (eC (.int 1)))) 8 eYes (eCall fn_board_number (aCons (eV 1) (aCons (eV 2) (aCons (eV 6) (aCons (eV 8) aNil)))))))
    (sSeq (sFor (iL (eV 7)) (tgN 9)
    (sIf (eUn notD (eCall fn__law_number (aCons (eV 9) aNil)))
    (sRet (eC (.bl false)))
    sNil))
    (sApp 5 (eV 7)))))
    (sSeq (sOwn 10 (eC (.dct [])))
    (sSeq (sFor (iL (eCall fn__law_shapes (aCons (eV 1) (aCons (eV 3) aNil)))) (tgN 11)
    (sFor (iL (eCall fn__law_shapes (aCons (eV 2) (aCons (eV 4) aNil)))) (tgN 12)
    (sPutD 10 (eCallB fn__law_besides (aCons (eO 5) (aCons (eV 11) (aCons (eV 12) aNil)))))))
    (sSeq (sAsg 13 (eC (.int 0)))
    (sSeq (sWhile 100000 (eOp inD (eV 13) (eO 10))
    (sAsg 13 (eOp addD (eV 13) (eC (.int 1)))))
    (sRet (eOp eqD (eOp ixD (eOp ixD (eO 5) (eV 3)) (eV 4)) (eV 13)))))))))
def b_law : SFn :=
  (sSeq (sAsg 1 (eCall fn__law_rule (aCons (eCall fn__law_cell_at (aCons (eV 0) (aCons (eC (.int 0)) aNil))) aNil)))
    (sSeq (sAsg 2 (eCall fn__law_rule (aCons (eCall fn__law_cell_at (aCons (eV 0) (aCons (eC (.int 1)) aNil))) aNil)))
    (sSeq (sAsg 3 (eOp modD (eCall fn__law_cell_at (aCons (eV 0) (aCons (eC (.int 2)) aNil))) (eC (.int 5))))
    (sSeq (sAsg 4 (eOp modD (eCall fn__law_cell_at (aCons (eV 0) (aCons (eC (.int 3)) aNil))) (eC (.int 5))))
    (sDrop 0 b_law_2)))))
def fn_law : List D → R D := runF 14 b_law
section
variable {P : Program} {w : World} {K : PySem.W.Frag} {mg : Str → Option Value} {base : Heap}
theorem ok_asked_number {k : Nat} {f : Addr} {fd : FuncData} (F : Fun K "asked_number" "asked_number" s_asked_number f fd) (g_MANY : ∃ t, mg "MANY" = some (.int 65536 t)) (x_NoNumber : Xc K mg "NoNumber") :
    FnOk P w K mg base (L2N.CX P w) (k + 1) f fd ["number"] (spOf K mg 1 (runF 1 b_asked_number)) :=
  fn_ok F sc_asked_number fun cdv A outer s H E O =>
    (ss_one (ss_if (st_w (sw_or (st_cmp os_lt (sb (se_var 0 (pv 0))) (sb se_int)) (sw_or1 (st_cmp os_ge (sb (se_var 0 (pv 0))) (sb (se_globI rfl g_MANY))))))
    (ss_one (ss_raise O.calm O.tk x_NoNumber))
    ss_nil))
theorem ok_product {k : Nat} {f : Addr} {fd : FuncData} {rec : List D → R D} (F : Fun K "product" "product" s_product f fd) (z_rec : Fz P w K mg base k "product" 3 rec) (g_LOWER : LowerOk K mg) :
    FnOk P w K mg base (L2N.CX P w) (k + 1) f fd ["one", "two", "base"] (spOf K mg 3 (runF 7 (b_product rec))) :=
  fn_ok F sc_product fun cdv A outer s H E O =>
    (ss_cons (ss_if (st_w (sw_or (st_cmp os_lt (sb (se_var 0 (pv 0))) (sb se_int)) (sw_or1 (st_cmp os_lt (sb (se_var 1 (pv 1))) (sb se_int)))))
    (ss_one (ss_ret (se_bin os_mul (sb (se_var 0 (pv 0))) (sb (se_var 1 (pv 1))))))
    ss_nil)
    (ss_cons (ss_asg 3 O.nd (se_lower g_LOWER (sb (se_var 2 (pv 2)))))
    (ss_cons (ss_if (st_w (sw_and (st_cmp os_lt (sb (se_var 0 (pv 0))) (sb (se_var 2 (pv 2)))) (sw_and1 (st_cmp os_lt (sb (se_var 1 (pv 1))) (sb (se_var 2 (pv 2)))))))
    (ss_one (ss_ret (se_call z_rec O.room O.ps (sa_cons (se_var 0 (pv 0)) (sa_cons (se_var 1 (pv 1)) (sa_cons (se_var 3 (pv 3)) sa_nil))))))
    ss_nil)
    (ss_cons (ss_asg 4 O.nd (se_call z_rec O.room O.ps (sa_cons (se_bin os_fdiv (sb (se_var 0 (pv 0))) (sb (se_var 2 (pv 2)))) (sa_cons (se_bin os_fdiv (sb (se_var 1 (pv 1))) (sb (se_var 2 (pv 2)))) (sa_cons (se_var 3 (pv 3)) sa_nil)))))
    (ss_cons (ss_asg 5 O.nd (se_call z_rec O.room O.ps (sa_cons (se_bin os_mod (sb (se_var 0 (pv 0))) (sb (se_var 2 (pv 2)))) (sa_cons (se_bin os_mod (sb (se_var 1 (pv 1))) (sb (se_var 2 (pv 2)))) (sa_cons (se_var 3 (pv 3)) sa_nil)))))
    (ss_cons (ss_asg 6 O.nd (se_call z_rec O.room O.ps (sa_cons (se_bin os_xor (sb (se_bin os_fdiv (sb (se_var 0 (pv 0))) (sb (se_var 2 (pv 2))))) (sb (se_bin os_mod (sb (se_var 0 (pv 0))) (sb (se_var 2 (pv 2)))))) (sa_cons (se_bin os_xor (sb (se_bin os_fdiv (sb (se_var 1 (pv 1))) (sb (se_var 2 (pv 2))))) (sb (se_bin os_mod (sb (se_var 1 (pv 1))) (sb (se_var 2 (pv 2)))))) (sa_cons (se_var 3 (pv 3)) sa_nil)))))
    (ss_one (ss_ret (se_bin os_add (sb (se_bin os_mul (sb (se_bin os_xor (sb (se_var 6 (pv 6))) (sb (se_var 5 (pv 5))))) (sb (se_var 2 (pv 2))))) (sb (se_bin os_xor (sb (se_var 5 (pv 5))) (sb (se_call z_rec O.room O.ps (sa_cons (se_var 4 (pv 4)) (sa_cons (se_bin os_fdiv (sb (se_var 2 (pv 2))) (sb se_int)) (sa_cons (se_var 3 (pv 3)) sa_nil))))))))))))))))
theorem ok_times {k : Nat} {f : Addr} {fd : FuncData} (F : Fun K "times" "times" s_times f fd) (z_asked_number : Fz P w K mg base k "asked_number" 1 fn_asked_number) (z_product : Fz P w K mg base k "product" 3 (fn_product 6)) :
    FnOk P w K mg base (L2N.CX P w) (k + 1) f fd ["one", "two"] (spOf K mg 2 (runF 2 b_times)) :=
  fn_ok F sc_times fun cdv A outer s H E O =>
    (ss_cons (ss_expr (se_call z_asked_number O.room O.ps (sa_cons (se_var 0 (pv 0)) sa_nil)))
    (ss_cons (ss_expr (se_call z_asked_number O.room O.ps (sa_cons (se_var 1 (pv 1)) sa_nil)))
    (ss_one (ss_ret (se_call z_product O.room O.ps (sa_cons (se_var 0 (pv 0)) (sa_cons (se_var 1 (pv 1)) (sa_cons se_int sa_nil))))))))
theorem ok_asked_rule {k : Nat} {f : Addr} {fd : FuncData} (F : Fun K "asked_rule" "asked_rule" s_asked_rule f fd) (g_PLACES : ∃ t, mg "PLACES" = some (.int 40 t)) (x_NoRule : Xc K mg "NoRule") :
    FnOk P w K mg base (L2N.CX P w) (k + 1) f fd ["rule"] (spOf K mg 1 (runF 2 b_asked_rule)) :=
  fn_ok F sc_asked_rule fun cdv A outer s H E O =>
    (ss_cons (ss_asg 1 O.nd se_int)
    (ss_cons (ss_if (st_w (sw_or (st_cmp (os_eq O.u64) (sb (se_ix (sb (se_var 0 (pv 0))) (sb se_int))) (sb se_str)) (sw_or1 (st_cmp (os_eq O.u64) (sb (se_ix (sb (se_var 0 (pv 0))) (sb se_int))) (sb se_str)))))
    (ss_one (ss_asg 1 O.nd se_int))
    ss_nil)
    (ss_cons (ss_if (st_cmp (os_eq O.u64) (sb (se_ix (sb (se_var 0 (pv 0))) (sb se_int))) (sb se_str))
    (ss_one (ss_asg 1 O.nd (se_globI rfl g_PLACES)))
    ss_nil)
    (ss_one (ss_if (st_w (sw_or (st_cmp os_lt (sb (se_ix (sb (se_var 0 (pv 0))) (sb se_int))) (sb se_int)) (sw_or1 (st_cmp os_gt (sb (se_ix (sb (se_var 0 (pv 0))) (sb se_int))) (sb (se_var 1 (pv 1)))))))
    (ss_one (ss_raise O.calm O.tk x_NoRule))
    ss_nil)))))
theorem ok_picks {k : Nat} {f : Addr} {fd : FuncData} (F : Fun K "picks" "picks" s_picks f fd) (m_range : mg "range" = none) :
    FnOk P w K mg base (L2N.CX P w) (k + 1) f fd ["count", "below"] (spOf K mg 2 (runF 5 b_picks)) :=
  fn_ok F sc_picks fun cdv A outer s H E O =>
    (ss_cons (ss_if (st_cmp (os_eq O.u64) (sb (se_var 0 (pv 0))) (sb se_int))
    (ss_one (ss_ret (se_sf (sf_lst (sa_cons (se_sf (sf_lst sa_nil)) sa_nil)))))
    ss_nil)
    (ss_cons (ss_if (st_cmp (os_eq O.u64) (sb (se_var 0 (pv 0))) (sb se_int))
    (ss_one (ss_ret (se_sf (sf_lc O.calm O.nd (si_r1 (se_var 1 (pv 1)) m_range) (blkOk_by (N := N_picks) (sc := defScope s_picks) (own := [("one", 2)]) (by decide +kernel)) (fun _ _ _ _ _ => pg_name (i := 2) O.nd rfl (Or.inl rfl)) (fun _ _ _ _ _ => sts_nil) (fun _ _ _ _ _ => (se_sf (sf_lst (sa_cons (se_var 2 (pv 2)) sa_nil))))))))
    ss_nil)
    (ss_cons (ss_own 3 O.nd (sf_lst sa_nil))
    (ss_cons (ss_for O.po O.calm (si_r1 (se_var 1 (pv 1)) m_range) (sg_name 2 O.nd)
    (ss_one (ss_for O.po O.calm (si_r2 (se_bin os_add (sb (se_var 2 (pv 2))) (sb se_int)) (se_var 1 (pv 1)) m_range) (sg_name 4 O.nd)
    (ss_one (ss_app 3 (pv 3) (se_sf (sf_lst (sa_cons (se_var 2 (pv 2)) (sa_cons (se_var 4 (pv 4)) sa_nil)))))))))
    (ss_one (ss_retO 3 (pv 3)))))))
theorem ok_shapes {k : Nat} {f : Addr} {fd : FuncData} (F : Fun K "shapes" "shapes" s_shapes f fd) (z_picks : Fz P w K mg base k "picks" 2 fn_picks) (m_range : mg "range" = none) (m_max : mg "max" = none) (m_list : mg "list" = none) :
    FnOk P w K mg base (L2N.CX P w) (k + 1) f fd ["rule", "last"] (spOf K mg 2 (runF 7 b_shapes)) :=
  fn_ok F sc_shapes fun cdv A outer s H E O =>
    (ss_cons (ss_own 2 O.nd (sf_lst sa_nil))
    (ss_cons (ss_if (st_cmp (os_eq O.u64) (sb (se_ix (sb (se_var 0 (pv 0))) (sb se_int))) (sb se_str))
    (ss_cons (ss_for O.po O.calm (si_r3 (se_var 1 (pv 1)) (se_m2 (call_max2 O.calm) max2_ok (sb (se_neg se_int)) (sb (se_bin os_sub (sb (se_var 1 (pv 1))) (sb (se_ix (sb (se_var 0 (pv 0))) (sb se_int))))) m_max) (se_neg se_int) m_range) (sg_name 3 O.nd)
    (ss_one (ss_app 2 (pv 2) (se_sf (sf_listR O.calm (se_var 3 (pv 3)) (se_bin os_add (sb (se_var 1 (pv 1))) (sb se_int)) m_list m_range)))))
    (ss_one (ss_retO 2 (pv 2))))
    ss_nil)
    (ss_cons (ss_asg 4 O.nd se_int)
    (ss_cons (ss_if (st_cmp (os_eq O.u64) (sb (se_ix (sb (se_var 0 (pv 0))) (sb se_int))) (sb se_str))
    (ss_one (ss_asg 4 O.nd (se_ix (sb (se_var 0 (pv 0))) (sb se_int))))
    ss_nil)
    (ss_cons (ss_for O.po O.calm (si_r2 (se_var 4 (pv 4)) (se_bin os_add (sb (se_ix (sb (se_var 0 (pv 0))) (sb se_int))) (sb se_int)) m_range) (sg_name 5 O.nd)
    (ss_one (ss_for O.po O.calm (si_list (se_call z_picks O.room O.ps (sa_cons (se_bin os_sub (sb (se_var 5 (pv 5))) (sb se_int)) (sa_cons (se_var 1 (pv 1)) sa_nil)))) (sg_name 6 O.nd)
    (ss_one (ss_app 2 (pv 2) (se_bin os_add (sb (se_var 6 (pv 6))) (sb (se_sf (sf_lst (sa_cons (se_var 1 (pv 1)) sa_nil))))))))))
    (ss_one (ss_retO 2 (pv 2))))))))
theorem ok_numbers {k : Nat} {f : Addr} {fd : FuncData} (F : Fun K "numbers" "numbers" s_numbers f fd) (z_shapes : Fz P w K mg base k "shapes" 2 fn_shapes) (m_range : mg "range" = none) :
    FnOk P w K mg base (L2N.CX P w) (k + 1) f fd ["rule", "most"] (spOf K mg 2 (runF 8 b_numbers)) :=
  fn_ok F sc_numbers fun cdv A outer s H E O =>
    (ss_cons (ss_own 2 O.nd (sf_lst sa_nil))
    (ss_cons (ss_for O.po O.calm (si_r1 (se_bin os_add (sb (se_var 1 (pv 1))) (sb se_int)) m_range) (sg_name 3 O.nd)
    (ss_cons (ss_own 4 O.nd sf_dict)
    (ss_cons (ss_for O.po O.calm (si_list (se_call z_shapes O.room O.ps (sa_cons (se_var 0 (pv 0)) (sa_cons (se_var 3 (pv 3)) sa_nil)))) (sg_name 5 O.nd)
    (ss_cons (ss_asg 6 O.nd se_int)
    (ss_cons (ss_for O.po O.calm (si_list (se_sf (sf_sl (sb (se_var 5 (pv 5))) so_none (so_some (se_neg se_int))))) (sg_name 7 O.nd)
    (ss_one (ss_asg 6 O.nd (se_bin os_xor (sb (se_var 6 (pv 6))) (sb (se_ix (sb_own 2 (pv 2)) (sb (se_var 7 (pv 7)))))))))
    (ss_one (ss_putD 4 O.u1 (pv 4) (se_var 6 (pv 6)))))))
    (ss_cons (ss_asg 6 O.nd se_int)
    (ss_cons (ss_while 100000 O.po (st_cmp (os_in O.u65) (sb (se_var 6 (pv 6))) (sb_own 4 (pv 4)))
    (ss_one (ss_asg 6 O.nd (se_bin os_add (sb (se_var 6 (pv 6))) (sb se_int)))))
    (ss_one (ss_app 2 (pv 2) (se_var 6 (pv 6)))))))))
    (ss_one (ss_retO 2 (pv 2)))))
theorem ok_board_number {k : Nat} {f : Addr} {fd : FuncData} (F : Fun K "board_number" "board_number" s_board_number f fd) (z_asked_rule : Fz P w K mg base k "asked_rule" 1 fn_asked_rule) (z_times : Fz P w K mg base k "times" 2 fn_times) (z_numbers : Fz P w K mg base k "numbers" 2 fn_numbers) (g_SIDE : ∃ t, mg "SIDE" = some (.int 16 t)) (x_NoBoard : Xc K mg "NoBoard") :
    FnOk P w K mg base (L2N.CX P w) (k + 1) f fd ["rule_x", "rule_y", "x", "y"] (spOf K mg 4 (runF 4 b_board_number)) :=
  fn_ok F sc_board_number fun cdv A outer s H E O =>
    (ss_cons (ss_expr (se_call z_asked_rule O.room O.ps (sa_cons (se_var 0 (pv 0)) sa_nil)))
    (ss_cons (ss_expr (se_call z_asked_rule O.room O.ps (sa_cons (se_var 1 (pv 1)) sa_nil)))
    (ss_cons (ss_if (st_w (sw_or (st_cmp os_lt (sb (se_var 2 (pv 2))) (sb se_int)) (sw_or (st_cmp os_ge (sb (se_var 2 (pv 2))) (sb (se_globI rfl g_SIDE))) (sw_or (st_cmp os_lt (sb (se_var 3 (pv 3))) (sb se_int)) (sw_or1 (st_cmp os_ge (sb (se_var 3 (pv 3))) (sb (se_globI rfl g_SIDE))))))))
    (ss_one (ss_raise O.calm O.tk x_NoBoard))
    ss_nil)
    (ss_one (ss_ret (se_call z_times O.room O.ps (sa_cons (se_ix (sb (se_call z_numbers O.room O.ps (sa_cons (se_var 0 (pv 0)) (sa_cons (se_var 2 (pv 2)) sa_nil)))) (sb (se_var 2 (pv 2)))) (sa_cons (se_ix (sb (se_call z_numbers O.room O.ps (sa_cons (se_var 1 (pv 1)) (sa_cons (se_var 3 (pv 3)) sa_nil)))) (sb (se_var 3 (pv 3)))) sa_nil))))))))
theorem ok__law_cell_at {k : Nat} {f : Addr} {fd : FuncData} (F : Fun K "_law_cell_at" "_law_cell_at" s__law_cell_at f fd) (m_len : mg "len" = none) :
    FnOk P w K mg base (L2N.CX P w) (k + 1) f fd ["script", "k"] (spOf K mg 2 (runF 2 b__law_cell_at)) :=
  fn_ok F sc__law_cell_at fun cdv A outer s H E O =>
    (ss_cons (ss_if (st_cmp os_lt (sb (se_var 1 (pv 1))) (sb (se_b1 cs_len (sb (se_var 0 (pv 0))) m_len)))
    (ss_one (ss_ret (se_ix (sb (se_var 0 (pv 0))) (sb (se_var 1 (pv 1))))))
    ss_nil)
    (ss_one (ss_ret se_int)))
theorem ok__law_number {k : Nat} {f : Addr} {fd : FuncData} (F : Fun K "_law_number" "_law_number" s__law_number f fd) (m_isinstance : mg "isinstance" = none) (m_int : mg "int" = none) (m_bool : mg "bool" = none) :
    FnOk P w K mg base (L2N.CX P w) (k + 1) f fd ["found"] (spOf K mg 1 (runF 1 b__law_number)) :=
  fn_ok F sc__law_number fun cdv A outer s H E O =>
    (ss_one (ss_ret (se_and (se_isi "int" (sb (se_var 0 (pv 0))) m_isinstance m_int) (se_and (se_not (se_isi "bool" (sb (se_var 0 (pv 0))) m_isinstance m_bool)) (se_one (se_chain (os_le O.u) os_lt (sb se_int) (sb (se_var 0 (pv 0))) (sb se_int)))))))
theorem ok__law_rule {k : Nat} {f : Addr} {fd : FuncData} (F : Fun K "_law_rule" "_law_rule" s__law_rule f fd)  :
    FnOk P w K mg base (L2N.CX P w) (k + 1) f fd ["cell"] (spOf K mg 1 (runF 1 b__law_rule)) :=
  fn_ok F sc__law_rule fun cdv A outer s H E O =>
    (ss_cons (ss_if (st_cmp (os_eq O.u64) (sb (se_bin os_mod (sb (se_var 0 (pv 0))) (sb se_int))) (sb se_int))
    (ss_one (ss_ret (se_tup (sa_cons se_str (sa_cons (se_bin os_add (sb se_int) (sb (se_bin os_mod (sb (se_bin os_fdiv (sb (se_var 0 (pv 0))) (sb se_int))) (sb se_int)))) sa_nil)))))
    ss_nil)
    (ss_one (ss_ret (se_tup (sa_cons (se_ix (sb (se_sf (sf_lst (sa_cons se_str (sa_cons se_str sa_nil))))) (sb (se_bin os_mod (sb (se_var 0 (pv 0))) (sb se_int)))) (sa_cons (se_bin os_add (sb se_int) (sb (se_bin os_mod (sb (se_bin os_fdiv (sb (se_var 0 (pv 0))) (sb se_int))) (sb se_int)))) sa_nil))))))
theorem ok__law_shapes {k : Nat} {f : Addr} {fd : FuncData} (F : Fun K "_law_shapes" "_law_shapes" s__law_shapes f fd) (m_range : mg "range" = none) :
    FnOk P w K mg base (L2N.CX P w) (k + 1) f fd ["rule", "last"] (spOf K mg 2 (runF 7 b__law_shapes)) :=
  fn_ok F sc__law_shapes fun cdv A outer s H E O =>
    (ss_cons (ss_own 2 O.nd (sf_lst sa_nil))
    (ss_cons (ss_for O.po O.calm (si_r2 se_int (se_bin os_add (sb (se_ix (sb (se_var 0 (pv 0))) (sb se_int))) (sb se_int)) m_range) (sg_name 3 O.nd)
    (ss_one (ss_if (st_cmp (os_eq O.u64) (sb (se_ix (sb (se_var 0 (pv 0))) (sb se_int))) (sb se_str))
    (ss_one (ss_if (st_cmp (os_le O.u) (sb (se_var 3 (pv 3))) (sb (se_bin os_add (sb (se_var 1 (pv 1))) (sb se_int))))
    (ss_one (ss_app 2 (pv 2) (se_sf (sf_lc O.calm O.nd (si_r1 (se_var 3 (pv 3)) m_range) (blkOk_by (N := N__law_shapes) (sc := defScope s__law_shapes) (own := [("k", 4)]) (by decide +kernel)) (fun _ _ _ _ _ => pg_name (i := 4) O.nd rfl (Or.inl rfl)) (fun _ _ _ _ _ => sts_nil) (fun _ _ _ _ _ => (se_bin os_add (sb (se_bin os_sub (sb (se_bin os_add (sb (se_var 1 (pv 1))) (sb se_int))) (sb (se_var 3 (pv 3))))) (sb (se_var 4 (pv 4)))))))))
    ss_nil))
    (ss_one (ss_if (st_w (sw_or (st_cmp (os_eq O.u64) (sb (se_ix (sb (se_var 0 (pv 0))) (sb se_int))) (sb se_str)) (sw_or1 (st_cmp (os_eq O.u64) (sb (se_var 3 (pv 3))) (sb (se_ix (sb (se_var 0 (pv 0))) (sb se_int)))))))
    (ss_cons (ss_if (st_cmp (os_eq O.u64) (sb (se_var 3 (pv 3))) (sb se_int))
    (ss_one (ss_app 2 (pv 2) (se_sf (sf_lst (sa_cons (se_var 1 (pv 1)) sa_nil)))))
    ss_nil)
    (ss_cons (ss_if (st_cmp (os_eq O.u64) (sb (se_var 3 (pv 3))) (sb se_int))
    (ss_one (ss_own 2 O.nd (sf_cat (sb_own 2 (pv 2)) (sb (se_sf (sf_lc O.calm O.nd (si_r1 (se_var 1 (pv 1)) m_range) (blkOk_by (N := N__law_shapes) (sc := defScope s__law_shapes) (own := [("one", 5)]) (by decide +kernel)) (fun _ _ _ _ _ => pg_name (i := 5) O.nd rfl (Or.inl rfl)) (fun _ _ _ _ _ => sts_nil) (fun _ _ _ _ _ => (se_sf (sf_lst (sa_cons (se_var 5 (pv 5)) (sa_cons (se_var 1 (pv 1)) sa_nil)))))))))))
    ss_nil)
    (ss_one (ss_if (st_cmp (os_eq O.u64) (sb (se_var 3 (pv 3))) (sb se_int))
    (ss_one (ss_for O.po O.calm (si_r1 (se_var 1 (pv 1)) m_range) (sg_name 5 O.nd)
    (ss_one (ss_own 2 O.nd (sf_cat (sb_own 2 (pv 2)) (sb (se_sf (sf_lc O.calm O.nd (si_r2 (se_bin os_add (sb (se_var 5 (pv 5))) (sb se_int)) (se_var 1 (pv 1)) m_range) (blkOk_by (N := N__law_shapes) (sc := defScope s__law_shapes) (own := [("two", 6)]) (by decide +kernel)) (fun _ _ _ _ _ => pg_name (i := 6) O.nd rfl (Or.inl rfl)) (fun _ _ _ _ _ => sts_nil) (fun _ _ _ _ _ => (se_sf (sf_lst (sa_cons (se_var 5 (pv 5)) (sa_cons (se_var 6 (pv 6)) (sa_cons (se_var 1 (pv 1)) sa_nil))))))))))))))
    ss_nil))))
    ss_nil)))))
    (ss_one (ss_retO 2 (pv 2)))))
theorem ok__law_besides {k : Nat} {f : Addr} {fd : FuncData} (F : Fun K "_law_besides" "_law_besides" s__law_besides f fd)  :
    FnOk P w K mg base (L2N.CX P w) (k + 1) f fd ["told", "xs", "ys"] (spOf K mg 3 (runF 6 b__law_besides)) :=
  fn_ok F sc__law_besides fun cdv A outer s H E O =>
    (ss_cons (ss_asg 3 O.nd se_int)
    (ss_cons (ss_for O.po O.calm (si_list (se_var 1 (pv 1))) (sg_name 4 O.nd)
    (ss_one (ss_for O.po O.calm (si_list (se_var 2 (pv 2))) (sg_name 5 O.nd)
    (ss_one (ss_if (st_w (sw_or (st_cmp (os_ne O.u64) (sb (se_var 4 (pv 4))) (sb (se_ix (sb (se_var 1 (pv 1))) (sb (se_neg se_int))))) (sw_or1 (st_cmp (os_ne O.u64) (sb (se_var 5 (pv 5))) (sb (se_ix (sb (se_var 2 (pv 2))) (sb (se_neg se_int))))))))
    (ss_one (ss_asg 3 O.nd (se_bin os_xor (sb (se_var 3 (pv 3))) (sb (se_ix (sb (se_ix (sb (se_var 0 (pv 0))) (sb (se_var 4 (pv 4))))) (sb (se_var 5 (pv 5))))))))
    ss_nil)))))
    (ss_one (ss_ret (se_var 3 (pv 3))))))
theorem ok_law {k : Nat} {f : Addr} {fd : FuncData} (F : Fun K "law" "law" s_law f fd) (z__law_rule : Fz P w K mg base k "_law_rule" 1 fn__law_rule) (z__law_cell_at : Fz P w K mg base k "_law_cell_at" 2 fn__law_cell_at) (z_board_number : Fz P w K mg base k "board_number" 4 fn_board_number) (z__law_number : Fz P w K mg base k "_law_number" 1 fn__law_number) (z__law_shapes : Fz P w K mg base k "_law_shapes" 2 fn__law_shapes) (z__law_besides : Fz P w K mg base k "_law_besides" 3 fn__law_besides) (m_range : mg "range" = none) :
    FnOk P w K mg base (L2N.CX P w) (k + 1) f fd ["script"] (spOf K mg 1 (runF 14 b_law)) :=
  fn_ok F sc_law fun cdv A outer s H E O =>
    (ss_cons (ss_asg 1 O.nd (se_call z__law_rule O.room O.ps (sa_cons (se_call z__law_cell_at O.room O.ps (sa_cons (se_var 0 (pv 0)) (sa_cons se_int sa_nil))) sa_nil)))
    (ss_cons (ss_asg 2 O.nd (se_call z__law_rule O.room O.ps (sa_cons (se_call z__law_cell_at O.room O.ps (sa_cons (se_var 0 (pv 0)) (sa_cons se_int sa_nil))) sa_nil)))
    (ss_cons (ss_asg 3 O.nd (se_bin os_mod (sb (se_call z__law_cell_at O.room O.ps (sa_cons (se_var 0 (pv 0)) (sa_cons se_int sa_nil)))) (sb se_int)))
    (ss_cons (ss_asg 4 O.nd (se_bin os_mod (sb (se_call z__law_cell_at O.room O.ps (sa_cons (se_var 0 (pv 0)) (sa_cons se_int sa_nil)))) (sb se_int)))
    (ss_drop 0 (ss_cons (ss_own 5 O.nd (sf_lst sa_nil))
    (ss_cons (ss_for O.po O.calm (si_r1 (se_bin os_add (sb (se_var 3 (pv 3))) (sb se_int)) m_range) (sg_name 6 O.nd)
    (ss_cons (ss_asgLc 7 O.calm O.nd (si_r1 (se_bin os_add (sb (se_var 4 (pv 4))) (sb se_int)) m_range) (blkOk_by (N := N_law) (sc := defScope s_law) (own := [("y", 8)]) (by decide +kernel)) (fun _ _ _ _ _ => pg_name (i := 8) O.nd rfl (Or.inl rfl)) (fun _ _ _ _ _ => sts_nil) (fun _ _ _ _ _ => (se_call z_board_number O.room passN (sa_cons (se_var 1 (pv 1)) (sa_cons (se_var 2 (pv 2)) (sa_cons (se_var 6 (pv 6)) (sa_cons (se_var 8 (pv 8)) sa_nil)))))) (sw_true rfl rfl rfl (by decide +kernel)))
    (ss_cons (ss_for O.po O.calm (si_list (se_var 7 (pv 7))) (sg_name 9 O.nd)
    (ss_one (ss_if (st_not (st_val (se_call z__law_number O.room O.ps (sa_cons (se_var 9 (pv 9)) sa_nil))))
    (ss_one (ss_ret se_bl))
    ss_nil)))
    (ss_one (ss_app 5 (pv 5) (se_var 7 (pv 7)))))))
    (ss_cons (ss_own 10 O.nd sf_dict)
    (ss_cons (ss_for O.po O.calm (si_list (se_call z__law_shapes O.room O.ps (sa_cons (se_var 1 (pv 1)) (sa_cons (se_var 3 (pv 3)) sa_nil)))) (sg_name 11 O.nd)
    (ss_one (ss_for O.po O.calm (si_list (se_call z__law_shapes O.room O.ps (sa_cons (se_var 2 (pv 2)) (sa_cons (se_var 4 (pv 4)) sa_nil)))) (sg_name 12 O.nd)
    (ss_one (ss_putD 10 O.u1 (pv 10) (se_callB z__law_besides O.room O.ps (sab_cons (sb_own 5 (pv 5)) (sab_cons (sb (se_var 11 (pv 11))) (sab_cons (sb (se_var 12 (pv 12))) sab_nil)))))))))
    (ss_cons (ss_asg 13 O.nd se_int)
    (ss_cons (ss_while 100000 O.po (st_cmp (os_in O.u65) (sb (se_var 13 (pv 13))) (sb_own 10 (pv 10)))
    (ss_one (ss_asg 13 O.nd (se_bin os_add (sb (se_var 13 (pv 13))) (sb se_int)))))
    (ss_one (ss_ret (se_cmp (os_eq O.u64) (sb (se_ix (sb (se_ix (sb_own 5 (pv 5)) (sb (se_var 3 (pv 3))))) (sb (se_var 4 (pv 4))))) (sb (se_var 13 (pv 13)))))))))))))))))
end
end Coin

namespace Coin
open PySem PySem.Spec PyProof.Rows L2 Cn
theorem cell_at (ns : List Int) (k : Nat) (i : Int) (hi : i = (k : Int)) : fn__law_cell_at [.scr ns, .int i] = .ok (.int (cell ns k)) := by
  subst hi
  unfold fn__law_cell_at b__law_cell_at
  by_cases h : k < ns.length
  · have h' : (k : Int) < (ns.length : Int) := by omega
    simp only [Cn.runF_a, Cn.sSeq_a, Cn.sIf_a, Cn.sAsg_a, Cn.sOwn_a, Cn.sRet_a, Cn.sRetO_a, Cn.sNil_a, Cn.sRaise_a, Cn.sExpr_a, Cn.sFrz_a, Cn.sDrop_a, Cn.frz_a, Cn.sApp_a, Cn.sExt_a, Cn.sPut_a, Cn.sPutD_a, Cn.sFor_a, Cn.sWhile_a, Cn.eV_a, Cn.eO_a, Cn.eC_a, Cn.eOp_a, Cn.eUn_a, Cn.eAnd_a, Cn.eOr_a, Cn.eChain_a, Cn.eLst_a, Cn.eTup_a, Cn.eCall_a, Cn.eCallB_a, Cn.eSl_a, Cn.eComp_a, Cn.eYes_a, Cn.aNil_a, Cn.aCons_a, Cn.oNone_a, Cn.oSome_a, Cn.eDict1_a, Cn.iL_a, Cn.iT_a, Cn.iR1_a, Cn.iR2_a, Cn.iR3_a, Cn.tgN_a, Cn.bind_ok, Cn.bind_ex, Cn.rOut_ok, Cn.rOut_ex, List.map_cons, List.map_nil, List.length_cons, List.length_nil, List.cons_append, List.nil_append, List.replicate, List.set, List.getElem?_cons_zero, List.getElem?_cons_succ, Nat.reduceAdd, Nat.reduceSub, Cn.addD, Cn.subD, Cn.negD, Cn.notD, Cn.ltD, Cn.gtD, Cn.geD, Cn.leD, Cn.lenD, Cn.intD, Cn.listD, Cn.seqD, Cn.tupD, Cn.isi_ii, Cn.isi_ib, Cn.isi_bb, Cn.isi_ll, Cn.isi_tt, Cn.isi_ss, Cn.eqD_ii, Cn.neD_ii, Cn.eqD_ss, Cn.neD_ss, Cn.eqD_bb, Cn.neD_bb, decide_true, decide_false, Bool.not_true, Bool.not_false, ixD, decide_eq_true h', Cn.atI_cell h]
  · have h' : ¬ (k : Int) < (ns.length : Int) := by omega
    simp only [Cn.runF_a, Cn.sSeq_a, Cn.sIf_a, Cn.sAsg_a, Cn.sOwn_a, Cn.sRet_a, Cn.sRetO_a, Cn.sNil_a, Cn.sRaise_a, Cn.sExpr_a, Cn.sFrz_a, Cn.sDrop_a, Cn.frz_a, Cn.sApp_a, Cn.sExt_a, Cn.sPut_a, Cn.sPutD_a, Cn.sFor_a, Cn.sWhile_a, Cn.eV_a, Cn.eO_a, Cn.eC_a, Cn.eOp_a, Cn.eUn_a, Cn.eAnd_a, Cn.eOr_a, Cn.eChain_a, Cn.eLst_a, Cn.eTup_a, Cn.eCall_a, Cn.eCallB_a, Cn.eSl_a, Cn.eComp_a, Cn.eYes_a, Cn.aNil_a, Cn.aCons_a, Cn.oNone_a, Cn.oSome_a, Cn.eDict1_a, Cn.iL_a, Cn.iT_a, Cn.iR1_a, Cn.iR2_a, Cn.iR3_a, Cn.tgN_a, Cn.bind_ok, Cn.bind_ex, Cn.rOut_ok, Cn.rOut_ex, List.map_cons, List.map_nil, List.length_cons, List.length_nil, List.cons_append, List.nil_append, List.replicate, List.set, List.getElem?_cons_zero, List.getElem?_cons_succ, Nat.reduceAdd, Nat.reduceSub, Cn.addD, Cn.subD, Cn.negD, Cn.notD, Cn.ltD, Cn.gtD, Cn.geD, Cn.leD, Cn.lenD, Cn.intD, Cn.listD, Cn.seqD, Cn.tupD, Cn.isi_ii, Cn.isi_ib, Cn.isi_bb, Cn.isi_ll, Cn.isi_tt, Cn.isi_ss, Cn.eqD_ii, Cn.neD_ii, Cn.eqD_ss, Cn.neD_ss, Cn.eqD_bb, Cn.neD_bb, decide_true, decide_false, Bool.not_true, Bool.not_false, decide_eq_false h', Cn.cell_out h]
abbrev rl (w : Str) (k : Nat) : D := .tup [.str w, .int (1 + (k : Int))]
theorem rule_ok (i : Int) : ∃ k : Nat, (k < 6 ∧ fn__law_rule [.int i] = .ok (rl "run" k)) ∨ (k < 3 ∧ (fn__law_rule [.int i] = .ok (rl "most" k) ∨ fn__law_rule [.int i] = .ok (rl "just" k))) := by
  unfold fn__law_rule b__law_rule
  by_cases h : i % 3 = 2
  · refine ⟨(i / 3 % 6).toNat, .inl ⟨by omega, ?_⟩⟩
    unfold rl
    rw [Int.toNat_of_nonneg (by omega)]
    simp only [Cn.runF_a, Cn.sSeq_a, Cn.sIf_a, Cn.sAsg_a, Cn.sOwn_a, Cn.sRet_a, Cn.sRetO_a, Cn.sNil_a, Cn.sRaise_a, Cn.sExpr_a, Cn.sFrz_a, Cn.sDrop_a, Cn.frz_a, Cn.sApp_a, Cn.sExt_a, Cn.sPut_a, Cn.sPutD_a, Cn.sFor_a, Cn.sWhile_a, Cn.eV_a, Cn.eO_a, Cn.eC_a, Cn.eOp_a, Cn.eUn_a, Cn.eAnd_a, Cn.eOr_a, Cn.eChain_a, Cn.eLst_a, Cn.eTup_a, Cn.eCall_a, Cn.eCallB_a, Cn.eSl_a, Cn.eComp_a, Cn.eYes_a, Cn.aNil_a, Cn.aCons_a, Cn.oNone_a, Cn.oSome_a, Cn.eDict1_a, Cn.iL_a, Cn.iT_a, Cn.iR1_a, Cn.iR2_a, Cn.iR3_a, Cn.tgN_a, Cn.bind_ok, Cn.bind_ex, Cn.rOut_ok, Cn.rOut_ex, List.map_cons, List.map_nil, List.length_cons, List.length_nil, List.cons_append, List.nil_append, List.replicate, List.set, List.getElem?_cons_zero, List.getElem?_cons_succ, Nat.reduceAdd, Nat.reduceSub, Cn.addD, Cn.subD, Cn.negD, Cn.notD, Cn.ltD, Cn.gtD, Cn.geD, Cn.leD, Cn.lenD, Cn.intD, Cn.listD, Cn.seqD, Cn.tupD, Cn.isi_ii, Cn.isi_ib, Cn.isi_bb, Cn.isi_ll, Cn.isi_tt, Cn.isi_ss, Cn.eqD_ii, Cn.neD_ii, Cn.eqD_ss, Cn.neD_ss, Cn.eqD_bb, Cn.neD_bb, decide_true, decide_false, Bool.not_true, Bool.not_false, modD_pos (show (0 : Int) < 3 by decide), modD_pos (show (0 : Int) < 6 by decide), fdivD_pos (show (0 : Int) < 3 ∧ (3 : Int) < 1073741824 by decide), decide_eq_true h]
  · refine ⟨(i / 3 % 3).toNat, .inr ⟨by omega, ?_⟩⟩
    unfold rl
    rw [Int.toNat_of_nonneg (by omega)]
    have h2 : i % 3 = 0 ∨ i % 3 = 1 := by omega
    rcases h2 with h2 | h2
    · left
      have e : ixD (.lst [.str "most", .str "just"]) (.int 0) = .ok (.str "most") := rfl
      simp only [Cn.runF_a, Cn.sSeq_a, Cn.sIf_a, Cn.sAsg_a, Cn.sOwn_a, Cn.sRet_a, Cn.sRetO_a, Cn.sNil_a, Cn.sRaise_a, Cn.sExpr_a, Cn.sFrz_a, Cn.sDrop_a, Cn.frz_a, Cn.sApp_a, Cn.sExt_a, Cn.sPut_a, Cn.sPutD_a, Cn.sFor_a, Cn.sWhile_a, Cn.eV_a, Cn.eO_a, Cn.eC_a, Cn.eOp_a, Cn.eUn_a, Cn.eAnd_a, Cn.eOr_a, Cn.eChain_a, Cn.eLst_a, Cn.eTup_a, Cn.eCall_a, Cn.eCallB_a, Cn.eSl_a, Cn.eComp_a, Cn.eYes_a, Cn.aNil_a, Cn.aCons_a, Cn.oNone_a, Cn.oSome_a, Cn.eDict1_a, Cn.iL_a, Cn.iT_a, Cn.iR1_a, Cn.iR2_a, Cn.iR3_a, Cn.tgN_a, Cn.bind_ok, Cn.bind_ex, Cn.rOut_ok, Cn.rOut_ex, List.map_cons, List.map_nil, List.length_cons, List.length_nil, List.cons_append, List.nil_append, List.replicate, List.set, List.getElem?_cons_zero, List.getElem?_cons_succ, Nat.reduceAdd, Nat.reduceSub, Cn.addD, Cn.subD, Cn.negD, Cn.notD, Cn.ltD, Cn.gtD, Cn.geD, Cn.leD, Cn.lenD, Cn.intD, Cn.listD, Cn.seqD, Cn.tupD, Cn.isi_ii, Cn.isi_ib, Cn.isi_bb, Cn.isi_ll, Cn.isi_tt, Cn.isi_ss, Cn.eqD_ii, Cn.neD_ii, Cn.eqD_ss, Cn.neD_ss, Cn.eqD_bb, Cn.neD_bb, decide_true, decide_false, Bool.not_true, Bool.not_false, modD_pos (show (0 : Int) < 3 by decide), fdivD_pos (show (0 : Int) < 3 ∧ (3 : Int) < 1073741824 by decide), decide_eq_false h, h2, e, decide_eq_false (show ¬ (0 : Int) = 2 by decide)]
    · right
      have e : ixD (.lst [.str "most", .str "just"]) (.int 1) = .ok (.str "just") := rfl
      simp only [Cn.runF_a, Cn.sSeq_a, Cn.sIf_a, Cn.sAsg_a, Cn.sOwn_a, Cn.sRet_a, Cn.sRetO_a, Cn.sNil_a, Cn.sRaise_a, Cn.sExpr_a, Cn.sFrz_a, Cn.sDrop_a, Cn.frz_a, Cn.sApp_a, Cn.sExt_a, Cn.sPut_a, Cn.sPutD_a, Cn.sFor_a, Cn.sWhile_a, Cn.eV_a, Cn.eO_a, Cn.eC_a, Cn.eOp_a, Cn.eUn_a, Cn.eAnd_a, Cn.eOr_a, Cn.eChain_a, Cn.eLst_a, Cn.eTup_a, Cn.eCall_a, Cn.eCallB_a, Cn.eSl_a, Cn.eComp_a, Cn.eYes_a, Cn.aNil_a, Cn.aCons_a, Cn.oNone_a, Cn.oSome_a, Cn.eDict1_a, Cn.iL_a, Cn.iT_a, Cn.iR1_a, Cn.iR2_a, Cn.iR3_a, Cn.tgN_a, Cn.bind_ok, Cn.bind_ex, Cn.rOut_ok, Cn.rOut_ex, List.map_cons, List.map_nil, List.length_cons, List.length_nil, List.cons_append, List.nil_append, List.replicate, List.set, List.getElem?_cons_zero, List.getElem?_cons_succ, Nat.reduceAdd, Nat.reduceSub, Cn.addD, Cn.subD, Cn.negD, Cn.notD, Cn.ltD, Cn.gtD, Cn.geD, Cn.leD, Cn.lenD, Cn.intD, Cn.listD, Cn.seqD, Cn.tupD, Cn.isi_ii, Cn.isi_ib, Cn.isi_bb, Cn.isi_ll, Cn.isi_tt, Cn.isi_ss, Cn.eqD_ii, Cn.neD_ii, Cn.eqD_ss, Cn.neD_ss, Cn.eqD_bb, Cn.neD_bb, decide_true, decide_false, Bool.not_true, Bool.not_false, modD_pos (show (0 : Int) < 3 by decide), fdivD_pos (show (0 : Int) < 3 ∧ (3 : Int) < 1073741824 by decide), decide_eq_false h, h2, e, decide_eq_false (show ¬ (1 : Int) = 2 by decide)]
theorem fdivD_nat {a b : Nat} (h : 0 < b ∧ b < 1073741824) : fdivD (.int (a : Int)) (.int (b : Int)) = .ok (.int ((a / b : Nat) : Int)) := by
  rw [fdivD_pos (by omega), Int.natCast_ediv]
theorem modD_nat {a b : Nat} (h : 0 < b) : modD (.int (a : Int)) (.int (b : Int)) = .ok (.int ((a % b : Nat) : Int)) := by
  rw [modD_pos (by omega), Int.natCast_emod]
theorem xorD_nat {a b : Nat} : xorD (.int (a : Int)) (.int (b : Int)) = .ok (.int ((a ^^^ b : Nat) : Int)) := by
  rw [xorD_pos (by omega)]; rfl
theorem mulD_natl {a b : Nat} (h : a < 18446744073709551616) : mulD (.int (a : Int)) (.int (b : Int)) = .ok (.int ((a * b : Nat) : Int)) := by
  rw [mulD_l _ (by omega), Int.natCast_mul]
theorem mulD_natr {a b : Nat} (h : b < 18446744073709551616) : mulD (.int (a : Int)) (.int (b : Int)) = .ok (.int ((a * b : Nat) : Int)) := by
  rw [mulD_r _ (by omega), Int.natCast_mul]
def bs : Nat → Nat
  | 0 => 1
  | k + 1 => Nf.W k
theorem W_vals : Nf.W 0 = 2 ∧ Nf.W 1 = 4 ∧ Nf.W 2 = 16 ∧ Nf.W 3 = 256 ∧ Nf.W 4 = 65536 := by decide
theorem lower_bs {k : Nat} (h : k ≤ 3) : lowerD (.int ((bs (k + 1) : Nat) : Int)) = .ok (.int ((bs k : Nat) : Int)) := by
  have : k = 0 ∨ k = 1 ∨ k = 2 ∨ k = 3 := by omega
  rcases this with rfl | rfl | rfl | rfl <;> rfl
theorem W_le {k : Nat} (h : k ≤ 4) : Nf.W k ≤ 65536 := by
  have : k = 0 ∨ k = 1 ∨ k = 2 ∨ k = 3 ∨ k = 4 := by omega
  rcases this with rfl | rfl | rfl | rfl | rfl <;> decide
theorem half_bs {k : Nat} : ((Nf.W k : Nat) : Int) / 2 = ((Nf.W k / 2 : Nat) : Int) := by omega
theorem small_mul {k a b : Nat} (ha : a < Nf.W k) (hb : b < Nf.W k) (h : a < 2 ∨ b < 2) : a * b = Nf.nim k a b := by
  rcases h with h | h
  · have : a = 0 ∨ a = 1 := by omega
    rcases this with rfl | rfl
    · rw [Nf.nim_zero, Nat.zero_mul]
    · rw [Nf.nim_one k b hb, Nat.one_mul]
  · have : b = 0 ∨ b = 1 := by omega
    rcases this with rfl | rfl
    · rw [Nf.nim_comm, Nf.nim_zero, Nat.mul_zero]
    · rw [Nf.nim_comm, Nf.nim_one k a ha, Nat.mul_one]
theorem product_ok : ∀ (k n a b : Nat), k ≤ 4 → k < n → a < Nf.W k → b < Nf.W k → fn_product n [.int (a : Int), .int (b : Int), .int ((bs k : Nat) : Int)] = .ok (.int ((Nf.nim k a b : Nat) : Int))
  | k, 0, a, b, hk, hn, ha, hb => by omega
  | k, n + 1, a, b, hk, hn, ha, hb => by
    have wk := W_le hk
    show runF 7 (b_product (fn_product n)) _ = _
    unfold b_product
    by_cases h2 : a < 2 ∨ b < 2
    · have m : mulD (.int (a : Int)) (.int (b : Int)) = .ok (.int ((Nf.nim k a b : Nat) : Int)) := by
        rw [mulD_natl (by omega), small_mul ha hb h2]
      by_cases h0 : a < 2
      · simp only [Cn.runF_a, Cn.sSeq_a, Cn.sIf_a, Cn.sAsg_a, Cn.sOwn_a, Cn.sRet_a, Cn.sRetO_a, Cn.sNil_a, Cn.sRaise_a, Cn.sExpr_a, Cn.sFrz_a, Cn.sDrop_a, Cn.frz_a, Cn.sApp_a, Cn.sExt_a, Cn.sPut_a, Cn.sPutD_a, Cn.sFor_a, Cn.sWhile_a, Cn.eV_a, Cn.eO_a, Cn.eC_a, Cn.eOp_a, Cn.eUn_a, Cn.eAnd_a, Cn.eOr_a, Cn.eChain_a, Cn.eLst_a, Cn.eTup_a, Cn.eCall_a, Cn.eCallB_a, Cn.eSl_a, Cn.eComp_a, Cn.eYes_a, Cn.aNil_a, Cn.aCons_a, Cn.oNone_a, Cn.oSome_a, Cn.eDict1_a, Cn.iL_a, Cn.iT_a, Cn.iR1_a, Cn.iR2_a, Cn.iR3_a, Cn.tgN_a, Cn.bind_ok, Cn.bind_ex, Cn.rOut_ok, Cn.rOut_ex, List.map_cons, List.map_nil, List.length_cons, List.length_nil, List.cons_append, List.nil_append, List.replicate, List.set, List.getElem?_cons_zero, List.getElem?_cons_succ, Nat.reduceAdd, Nat.reduceSub, Cn.addD, Cn.subD, Cn.negD, Cn.notD, Cn.ltD, Cn.gtD, Cn.geD, Cn.leD, Cn.lenD, Cn.intD, Cn.listD, Cn.seqD, Cn.tupD, Cn.isi_ii, Cn.isi_ib, Cn.isi_bb, Cn.isi_ll, Cn.isi_tt, Cn.isi_ss, Cn.eqD_ii, Cn.neD_ii, Cn.eqD_ss, Cn.neD_ss, Cn.eqD_bb, Cn.neD_bb, decide_true, decide_false, Bool.not_true, Bool.not_false, decide_eq_true (show (a : Int) < 2 by omega), m]
      · simp only [Cn.runF_a, Cn.sSeq_a, Cn.sIf_a, Cn.sAsg_a, Cn.sOwn_a, Cn.sRet_a, Cn.sRetO_a, Cn.sNil_a, Cn.sRaise_a, Cn.sExpr_a, Cn.sFrz_a, Cn.sDrop_a, Cn.frz_a, Cn.sApp_a, Cn.sExt_a, Cn.sPut_a, Cn.sPutD_a, Cn.sFor_a, Cn.sWhile_a, Cn.eV_a, Cn.eO_a, Cn.eC_a, Cn.eOp_a, Cn.eUn_a, Cn.eAnd_a, Cn.eOr_a, Cn.eChain_a, Cn.eLst_a, Cn.eTup_a, Cn.eCall_a, Cn.eCallB_a, Cn.eSl_a, Cn.eComp_a, Cn.eYes_a, Cn.aNil_a, Cn.aCons_a, Cn.oNone_a, Cn.oSome_a, Cn.eDict1_a, Cn.iL_a, Cn.iT_a, Cn.iR1_a, Cn.iR2_a, Cn.iR3_a, Cn.tgN_a, Cn.bind_ok, Cn.bind_ex, Cn.rOut_ok, Cn.rOut_ex, List.map_cons, List.map_nil, List.length_cons, List.length_nil, List.cons_append, List.nil_append, List.replicate, List.set, List.getElem?_cons_zero, List.getElem?_cons_succ, Nat.reduceAdd, Nat.reduceSub, Cn.addD, Cn.subD, Cn.negD, Cn.notD, Cn.ltD, Cn.gtD, Cn.geD, Cn.leD, Cn.lenD, Cn.intD, Cn.listD, Cn.seqD, Cn.tupD, Cn.isi_ii, Cn.isi_ib, Cn.isi_bb, Cn.isi_ll, Cn.isi_tt, Cn.isi_ss, Cn.eqD_ii, Cn.neD_ii, Cn.eqD_ss, Cn.neD_ss, Cn.eqD_bb, Cn.neD_bb, decide_true, decide_false, Bool.not_true, Bool.not_false, decide_eq_false (show ¬ (a : Int) < 2 by omega), decide_eq_true (show (b : Int) < 2 by omega), m]
    · have n1 : ¬ (a : Int) < 2 := by omega
      have n2 : ¬ (b : Int) < 2 := by omega
      match k, hk, hn, ha, hb, wk with
      | 0, hk, hn, ha, hb, wk =>
        have : Nf.W 0 = 2 := rfl
        omega
      | k + 1, hk, hn, ha, hb, wk =>
        have wk' := W_le (show k ≤ 4 by omega)
        have wp := Nf.W_pos k
        have lo := lower_bs (show k ≤ 3 by omega)
        have ih := fun a b ha hb => product_ok k n a b (by omega) (by omega) ha hb
        by_cases hs : a < Nf.W k ∧ b < Nf.W k
        · have s1 : (a : Int) < ((bs (k + 1) : Nat) : Int) := by show (a : Int) < ((Nf.W k : Nat) : Int); omega
          have s2 : (b : Int) < ((bs (k + 1) : Nat) : Int) := by show (b : Int) < ((Nf.W k : Nat) : Int); omega
          simp only [Cn.runF_a, Cn.sSeq_a, Cn.sIf_a, Cn.sAsg_a, Cn.sOwn_a, Cn.sRet_a, Cn.sRetO_a, Cn.sNil_a, Cn.sRaise_a, Cn.sExpr_a, Cn.sFrz_a, Cn.sDrop_a, Cn.frz_a, Cn.sApp_a, Cn.sExt_a, Cn.sPut_a, Cn.sPutD_a, Cn.sFor_a, Cn.sWhile_a, Cn.eV_a, Cn.eO_a, Cn.eC_a, Cn.eOp_a, Cn.eUn_a, Cn.eAnd_a, Cn.eOr_a, Cn.eChain_a, Cn.eLst_a, Cn.eTup_a, Cn.eCall_a, Cn.eCallB_a, Cn.eSl_a, Cn.eComp_a, Cn.eYes_a, Cn.aNil_a, Cn.aCons_a, Cn.oNone_a, Cn.oSome_a, Cn.eDict1_a, Cn.iL_a, Cn.iT_a, Cn.iR1_a, Cn.iR2_a, Cn.iR3_a, Cn.tgN_a, Cn.bind_ok, Cn.bind_ex, Cn.rOut_ok, Cn.rOut_ex, List.map_cons, List.map_nil, List.length_cons, List.length_nil, List.cons_append, List.nil_append, List.replicate, List.set, List.getElem?_cons_zero, List.getElem?_cons_succ, Nat.reduceAdd, Nat.reduceSub, Cn.addD, Cn.subD, Cn.negD, Cn.notD, Cn.ltD, Cn.gtD, Cn.geD, Cn.leD, Cn.lenD, Cn.intD, Cn.listD, Cn.seqD, Cn.tupD, Cn.isi_ii, Cn.isi_ib, Cn.isi_bb, Cn.isi_ll, Cn.isi_tt, Cn.isi_ss, Cn.eqD_ii, Cn.neD_ii, Cn.eqD_ss, Cn.neD_ss, Cn.eqD_bb, Cn.neD_bb, decide_true, decide_false, Bool.not_true, Bool.not_false, decide_eq_false n1, decide_eq_false n2, lo, decide_eq_true s1, decide_eq_true s2, ih a b hs.1 hs.2, Nf.nim_low k a b hs.1 hs.2]
        · have sx : ¬ ((a : Int) < ((bs (k + 1) : Nat) : Int)) ∨ ((a : Int) < ((bs (k + 1) : Nat) : Int)) ∧ ¬ ((b : Int) < ((bs (k + 1) : Nat) : Int)) := by
            show ¬ ((a : Int) < ((Nf.W k : Nat) : Int)) ∨ ((a : Int) < ((Nf.W k : Nat) : Int)) ∧ ¬ ((b : Int) < ((Nf.W k : Nat) : Int))
            omega
          have hW := Nf.W_succ k
          have a1 : a / Nf.W k < Nf.W k := Nat.div_lt_of_lt_mul (by rw [← hW]; exact ha)
          have b1 : b / Nf.W k < Nf.W k := Nat.div_lt_of_lt_mul (by rw [← hW]; exact hb)
          have a0 : a % Nf.W k < Nf.W k := Nat.mod_lt _ wp
          have b0 : b % Nf.W k < Nf.W k := Nat.mod_lt _ wp
          have ax : a / Nf.W k ^^^ a % Nf.W k < Nf.W k := Nat.xor_lt_two_pow a1 a0
          have bx : b / Nf.W k ^^^ b % Nf.W k < Nf.W k := Nat.xor_lt_two_pow b1 b0
          have hd : Nf.W k / 2 < Nf.W k := by omega
          have wb : 0 < bs (k + 1) ∧ bs (k + 1) < 1073741824 := by show 0 < Nf.W k ∧ Nf.W k < 1073741824; omega
          have d1 := @fdivD_nat a (bs (k + 1)) wb
          have d2 := @fdivD_nat b (bs (k + 1)) wb
          have m1 := @modD_nat a (bs (k + 1)) wb.1
          have m2 := @modD_nat b (bs (k + 1)) wb.1
          have d3 : fdivD (.int ((bs (k + 1) : Nat) : Int)) (.int 2) = .ok (.int ((bs (k + 1) / 2 : Nat) : Int)) := @fdivD_nat (bs (k + 1)) 2 (by decide)
          have i1 := ih (a / bs (k + 1)) (b / bs (k + 1)) a1 b1
          have i2 := ih (a % bs (k + 1)) (b % bs (k + 1)) a0 b0
          have i3 := ih (a / bs (k + 1) ^^^ a % bs (k + 1)) (b / bs (k + 1) ^^^ b % bs (k + 1)) ax bx
          have i4 := ih (Nf.nim k (a / bs (k + 1)) (b / bs (k + 1))) (bs (k + 1) / 2) (Nf.nim_lt k _ _) hd
          have hm := @mulD_natr (Nf.nim k (a / bs (k + 1) ^^^ a % bs (k + 1)) (b / bs (k + 1) ^^^ b % bs (k + 1)) ^^^ Nf.nim k (a % bs (k + 1)) (b % bs (k + 1))) (bs (k + 1)) (by have := wb.2; omega)
          have nh : Nf.nim (k + 1) a b = (Nf.nim k (a / bs (k + 1) ^^^ a % bs (k + 1)) (b / bs (k + 1) ^^^ b % bs (k + 1)) ^^^ Nf.nim k (a % bs (k + 1)) (b % bs (k + 1))) * bs (k + 1) + (Nf.nim k (a % bs (k + 1)) (b % bs (k + 1)) ^^^ Nf.nim k (Nf.nim k (a / bs (k + 1)) (b / bs (k + 1))) (bs (k + 1) / 2)) := Nf.nim_halves k a b
          rw [nh]
          rcases sx with s1 | ⟨s1, s2⟩
          · simp only [Cn.runF_a, Cn.sSeq_a, Cn.sIf_a, Cn.sAsg_a, Cn.sOwn_a, Cn.sRet_a, Cn.sRetO_a, Cn.sNil_a, Cn.sRaise_a, Cn.sExpr_a, Cn.sFrz_a, Cn.sDrop_a, Cn.frz_a, Cn.sApp_a, Cn.sExt_a, Cn.sPut_a, Cn.sPutD_a, Cn.sFor_a, Cn.sWhile_a, Cn.eV_a, Cn.eO_a, Cn.eC_a, Cn.eOp_a, Cn.eUn_a, Cn.eAnd_a, Cn.eOr_a, Cn.eChain_a, Cn.eLst_a, Cn.eTup_a, Cn.eCall_a, Cn.eCallB_a, Cn.eSl_a, Cn.eComp_a, Cn.eYes_a, Cn.aNil_a, Cn.aCons_a, Cn.oNone_a, Cn.oSome_a, Cn.eDict1_a, Cn.iL_a, Cn.iT_a, Cn.iR1_a, Cn.iR2_a, Cn.iR3_a, Cn.tgN_a, Cn.bind_ok, Cn.bind_ex, Cn.rOut_ok, Cn.rOut_ex, List.map_cons, List.map_nil, List.length_cons, List.length_nil, List.cons_append, List.nil_append, List.replicate, List.set, List.getElem?_cons_zero, List.getElem?_cons_succ, Nat.reduceAdd, Nat.reduceSub, Cn.addD, Cn.subD, Cn.negD, Cn.notD, Cn.ltD, Cn.gtD, Cn.geD, Cn.leD, Cn.lenD, Cn.intD, Cn.listD, Cn.seqD, Cn.tupD, Cn.isi_ii, Cn.isi_ib, Cn.isi_bb, Cn.isi_ll, Cn.isi_tt, Cn.isi_ss, Cn.eqD_ii, Cn.neD_ii, Cn.eqD_ss, Cn.neD_ss, Cn.eqD_bb, Cn.neD_bb, decide_true, decide_false, Bool.not_true, Bool.not_false, decide_eq_false n1, decide_eq_false n2, lo, decide_eq_false s1, d1, d2, d3, m1, m2, i1, i2, xorD_nat, i3, i4, hm]
            rfl
          · simp only [Cn.runF_a, Cn.sSeq_a, Cn.sIf_a, Cn.sAsg_a, Cn.sOwn_a, Cn.sRet_a, Cn.sRetO_a, Cn.sNil_a, Cn.sRaise_a, Cn.sExpr_a, Cn.sFrz_a, Cn.sDrop_a, Cn.frz_a, Cn.sApp_a, Cn.sExt_a, Cn.sPut_a, Cn.sPutD_a, Cn.sFor_a, Cn.sWhile_a, Cn.eV_a, Cn.eO_a, Cn.eC_a, Cn.eOp_a, Cn.eUn_a, Cn.eAnd_a, Cn.eOr_a, Cn.eChain_a, Cn.eLst_a, Cn.eTup_a, Cn.eCall_a, Cn.eCallB_a, Cn.eSl_a, Cn.eComp_a, Cn.eYes_a, Cn.aNil_a, Cn.aCons_a, Cn.oNone_a, Cn.oSome_a, Cn.eDict1_a, Cn.iL_a, Cn.iT_a, Cn.iR1_a, Cn.iR2_a, Cn.iR3_a, Cn.tgN_a, Cn.bind_ok, Cn.bind_ex, Cn.rOut_ok, Cn.rOut_ex, List.map_cons, List.map_nil, List.length_cons, List.length_nil, List.cons_append, List.nil_append, List.replicate, List.set, List.getElem?_cons_zero, List.getElem?_cons_succ, Nat.reduceAdd, Nat.reduceSub, Cn.addD, Cn.subD, Cn.negD, Cn.notD, Cn.ltD, Cn.gtD, Cn.geD, Cn.leD, Cn.lenD, Cn.intD, Cn.listD, Cn.seqD, Cn.tupD, Cn.isi_ii, Cn.isi_ib, Cn.isi_bb, Cn.isi_ll, Cn.isi_tt, Cn.isi_ss, Cn.eqD_ii, Cn.neD_ii, Cn.eqD_ss, Cn.neD_ss, Cn.eqD_bb, Cn.neD_bb, decide_true, decide_false, Bool.not_true, Bool.not_false, decide_eq_false n1, decide_eq_false n2, lo, decide_eq_true s1, decide_eq_false s2, d1, d2, d3, m1, m2, i1, i2, xorD_nat, i3, i4, hm]
            rfl
theorem asked_ok {i : Int} (h : 0 ≤ i ∧ i < 65536) : fn_asked_number [.int i] = .ok .non := by
  unfold fn_asked_number b_asked_number
  simp only [Cn.runF_a, Cn.sSeq_a, Cn.sIf_a, Cn.sAsg_a, Cn.sOwn_a, Cn.sRet_a, Cn.sRetO_a, Cn.sNil_a, Cn.sRaise_a, Cn.sExpr_a, Cn.sFrz_a, Cn.sDrop_a, Cn.frz_a, Cn.sApp_a, Cn.sExt_a, Cn.sPut_a, Cn.sPutD_a, Cn.sFor_a, Cn.sWhile_a, Cn.eV_a, Cn.eO_a, Cn.eC_a, Cn.eOp_a, Cn.eUn_a, Cn.eAnd_a, Cn.eOr_a, Cn.eChain_a, Cn.eLst_a, Cn.eTup_a, Cn.eCall_a, Cn.eCallB_a, Cn.eSl_a, Cn.eComp_a, Cn.eYes_a, Cn.aNil_a, Cn.aCons_a, Cn.oNone_a, Cn.oSome_a, Cn.eDict1_a, Cn.iL_a, Cn.iT_a, Cn.iR1_a, Cn.iR2_a, Cn.iR3_a, Cn.tgN_a, Cn.bind_ok, Cn.bind_ex, Cn.rOut_ok, Cn.rOut_ex, List.map_cons, List.map_nil, List.length_cons, List.length_nil, List.cons_append, List.nil_append, List.replicate, List.set, List.getElem?_cons_zero, List.getElem?_cons_succ, Nat.reduceAdd, Nat.reduceSub, Cn.addD, Cn.subD, Cn.negD, Cn.notD, Cn.ltD, Cn.gtD, Cn.geD, Cn.leD, Cn.lenD, Cn.intD, Cn.listD, Cn.seqD, Cn.tupD, Cn.isi_ii, Cn.isi_ib, Cn.isi_bb, Cn.isi_ll, Cn.isi_tt, Cn.isi_ss, Cn.eqD_ii, Cn.neD_ii, Cn.eqD_ss, Cn.neD_ss, Cn.eqD_bb, Cn.neD_bb, decide_true, decide_false, Bool.not_true, Bool.not_false, decide_eq_false (show ¬ i < 0 by omega), decide_eq_false (show ¬ (65536 : Int) ≤ i by omega)]
theorem times_ok {a b : Nat} (ha : a < 65536) (hb : b < 65536) : fn_times [.int (a : Int), .int (b : Int)] = .ok (.int ((Nf.nim 4 a b : Nat) : Int)) := by
  unfold fn_times b_times
  have h1 := @asked_ok (a : Int) (by omega)
  have h2 := @asked_ok (b : Int) (by omega)
  have h3 : fn_product 6 [.int (a : Int), .int (b : Int), .int 256] = _ := product_ok 4 6 a b (by decide) (by decide) ha hb
  simp only [Cn.runF_a, Cn.sSeq_a, Cn.sIf_a, Cn.sAsg_a, Cn.sOwn_a, Cn.sRet_a, Cn.sRetO_a, Cn.sNil_a, Cn.sRaise_a, Cn.sExpr_a, Cn.sFrz_a, Cn.sDrop_a, Cn.frz_a, Cn.sApp_a, Cn.sExt_a, Cn.sPut_a, Cn.sPutD_a, Cn.sFor_a, Cn.sWhile_a, Cn.eV_a, Cn.eO_a, Cn.eC_a, Cn.eOp_a, Cn.eUn_a, Cn.eAnd_a, Cn.eOr_a, Cn.eChain_a, Cn.eLst_a, Cn.eTup_a, Cn.eCall_a, Cn.eCallB_a, Cn.eSl_a, Cn.eComp_a, Cn.eYes_a, Cn.aNil_a, Cn.aCons_a, Cn.oNone_a, Cn.oSome_a, Cn.eDict1_a, Cn.iL_a, Cn.iT_a, Cn.iR1_a, Cn.iR2_a, Cn.iR3_a, Cn.tgN_a, Cn.bind_ok, Cn.bind_ex, Cn.rOut_ok, Cn.rOut_ex, List.map_cons, List.map_nil, List.length_cons, List.length_nil, List.cons_append, List.nil_append, List.replicate, List.set, List.getElem?_cons_zero, List.getElem?_cons_succ, Nat.reduceAdd, Nat.reduceSub, Cn.addD, Cn.subD, Cn.negD, Cn.notD, Cn.ltD, Cn.gtD, Cn.geD, Cn.leD, Cn.lenD, Cn.intD, Cn.listD, Cn.seqD, Cn.tupD, Cn.isi_ii, Cn.isi_ib, Cn.isi_bb, Cn.isi_ll, Cn.isi_tt, Cn.isi_ss, Cn.eqD_ii, Cn.neD_ii, Cn.eqD_ss, Cn.neD_ss, Cn.eqD_bb, Cn.neD_bb, decide_true, decide_false, Bool.not_true, Bool.not_false, h1, h2, h3]
theorem times_int {a b : Int} (ha : 0 ≤ a ∧ a < 65536) (hb : 0 ≤ b ∧ b < 65536) : fn_times [.int a, .int b] = .ok (.int ((Nf.nim 4 a.toNat b.toNat : Nat) : Int)) := by
  have h := @times_ok a.toNat b.toNat (by omega) (by omega)
  rw [Int.toNat_of_nonneg ha.1, Int.toNat_of_nonneg hb.1] at h
  exact h
theorem mex_le_len : ∀ (n : Nat) (l : List Nat), (∀ k < n, k ∈ l) → n ≤ l.length
  | 0, l, _ => Nat.zero_le _
  | n + 1, l, h => by
    have h1 := h n (by omega)
    have h2 := mex_le_len n (l.erase n) fun k hk => (List.mem_erase_of_ne (by omega)).mpr (h k (by omega))
    rw [List.length_erase_of_mem h1] at h2
    have := List.length_pos_of_mem h1
    omega
theorem mexL_len (l : List Nat) : mexL l ≤ l.length := mex_le_len _ _ fun k hk => mexL_mem hk
theorem rgL_nat (n : Nat) : rgL 0 (n : Int) = (List.range n).map iN := by
  unfold rgL
  rw [show ((n : Int) - 0).toNat = n by omega]
  exact List.map_congr_left fun k _ => by rw [Int.zero_add]
theorem fold_loop {α β J : Type} {ga : D → En → Option En} {F : SFn} {enc : β → D} {st : α → J → En} {nxt : α → β → α} {P : Nat → α → Prop} {N : Nat} : ∀ (l : List β) (i : Nat) (a : α) (j : J), i + l.length ≤ N → P i a →
    (∀ (i : Nat) (a : α) (j : J) (b : β), i < N → b ∈ l → P i a → ∃ e j', ga (enc b) (st a j) = some e ∧ F e = .nx (st (nxt a b) j') ∧ P (i + 1) (nxt a b)) →
    ∃ j', forL ga F (l.map enc) (st a j) = .nx (st (l.foldl nxt a) j') ∧ P (i + l.length) (l.foldl nxt a)
  | [], i, a, j, _, hp, _ => ⟨j, rfl, hp⟩
  | b :: r, i, a, j, hN, hp, h => by
    rw [List.length_cons] at hN
    obtain ⟨e, j', h1, h2, h3⟩ := h i a j b (by omega) (List.mem_cons_self ..) hp
    obtain ⟨j2, h4, h5⟩ := fold_loop r (i + 1) (nxt a b) j' (by omega) h3 fun i a j b hi hb hp => h i a j b hi (List.mem_cons_of_mem _ hb) hp
    refine ⟨j2, ?_, ?_⟩
    · rw [List.map_cons, forL_cons, h1]
      dsimp only
      rw [h2]
      exact h4
    · rw [List.length_cons, List.foldl_cons, show i + (r.length + 1) = i + 1 + r.length by omega]
      exact h5
theorem xor_loop {ga : D → En → Option En} {F : SFn} {f : Nat → Nat} {st : Nat → Sl → En} (l : List Nat) (t : Nat) (s0 : Sl)
    (h : ∀ (t q : Nat) (s' : Sl), q ∈ l → ∃ e, ga (iN q) (st t s') = some e ∧ F e = .nx (st (t ^^^ f q) (.val (iN q)))) : ∃ s', forL ga F (l.map iN) (st t s0) = .nx (st (t ^^^ ovr f l) s') := by
  obtain ⟨j', h1, _⟩ := fold_loop (P := fun _ _ => True) (N := l.length) (enc := iN) (st := st) (nxt := fun t p => t ^^^ f p) l 0 t s0 (by omega) trivial fun i a j b _ hb _ => by
    obtain ⟨e, h1, h2⟩ := h a b j hb
    exact ⟨e, _, h1, h2, trivial⟩
  rw [ovr_from] at h1
  exact ⟨j', h1⟩
/-- a dict's keys by what is put into it -/
def dk (l : List Nat) (ks : List Int) : List Int := l.foldl (fun ks (n : Nat) => addK ks (n : Int)) ks
theorem mem_addK {ks : List Int} {k i : Int} : i ∈ addK ks k ↔ i ∈ ks ∨ i = k := by
  unfold addK
  split
  · rename_i h
    exact ⟨fun z => .inl z, fun z => by rcases z with z | rfl <;> assumption⟩
  · simp
theorem len_addK {ks : List Int} {k : Int} : (addK ks k).length ≤ ks.length + 1 := by
  unfold addK
  split
  · omega
  · rw [List.length_append, List.length_singleton]; omega
theorem mem_dk : ∀ (l : List Nat) (ks : List Int) (n : Nat), (n : Int) ∈ dk l ks ↔ n ∈ l ∨ (n : Int) ∈ ks
  | [], ks, n => by simp [dk]
  | a :: r, ks, n => by
    have := mem_dk r (addK ks (a : Int)) n
    show (n : Int) ∈ dk r (addK ks (a : Int)) ↔ _
    rw [this, mem_addK, List.mem_cons]
    have e : ((n : Int) = (a : Int)) ↔ n = a := by omega
    rw [e]
    constructor
    · rintro (h | h | h)
      · exact .inl (.inr h)
      · exact .inr h
      · exact .inl (.inl h)
    · rintro ((h | h) | h)
      · exact .inr (.inr h)
      · exact .inl h
      · exact .inr (.inl h)
structure RuleOk (r : D) (S : Nat → List (List Nat)) (B : Nat) : Prop where
  asked : fn_asked_rule [r] = .ok .non
  nodct : noDct r = true
  shp : ∀ p, p < B → fn_shapes [r, iN p] = .ok (nll (S p))
  shaped : ∀ p, p < B → Shaped S p
  small : ∀ p, p < B → (S p).length ≤ 1000
  bound : B ≤ 1000
section
variable {r : D} {S : Nat → List (List Nat)} {B : Nat}
theorem num1_low (K : RuleOk r S B) {p : Nat} (h : p < B) : num1 S p ≤ 1000 := by
  have := K.small p h
  have e := mexL_len ((S p).map fun s => ovr (fun q => (nums S p).getD q 0) s.dropLast)
  rw [List.length_map] at e
  unfold num1 stepN
  rw [nums_len]
  omega
theorem cut_last {l : List Nat} {p : Nat} (h : l = l.dropLast ++ [p]) : cutL (l.map iN) none (some (-1)) = l.dropLast.map iN := by
  generalize l.dropLast = i at h
  subst h
  unfold cutL
  have e1 : HT.sIx ((i ++ [p]).map iN).length 0 none = 0 := rfl
  have e2 : HT.sIx ((i ++ [p]).map iN).length ((i ++ [p]).map iN).length (some (-1)) = i.length := by
    rw [List.length_map, List.length_append, List.length_singleton]
    simp only [HT.sIx]
    split <;> omega
  rw [e1, e2, List.drop_zero, Nat.sub_zero, List.map_append, List.take_left' (by rw [List.length_map])]
def nb3 : SFn := (sAsg 6 (eOp xorD (eV 6) (eOp ixD (eO 2) (eV 7))))
def nb2 : SFn := (sSeq (sAsg 6 (eC (.int 0)))
    (sSeq (sFor (iL (eSl (eV 5) oNone (oSome (eUn negD (eC (.int 1)))))) (tgN 7) nb3)
    (sPutD 4 (eV 6))))
def nb1 : SFn := (sSeq (sOwn 4 (eC (.dct [])))
    (sSeq (sFor (iL (eCall fn_shapes (aCons (eV 0) (aCons (eV 3) aNil)))) (tgN 5) nb2)
    (sSeq (sAsg 6 (eC (.int 0)))
    (sSeq (sWhile 100000 (eOp inD (eV 6) (eO 4))
    (sAsg 6 (eOp addD (eV 6) (eC (.int 1)))))
    (sApp 2 (eV 6))))))
theorem seq_nl (l : List Nat) : seqD (nl l) = .ok (l.map iN) := rfl
theorem seq_nll (l : List (List Nat)) : seqD (nll l) = .ok (l.map nl) := rfl
theorem lt_LIM {n : Nat} (h : n < 1000000) : n < LIM := by rw [LIM_eq]; exact h
theorem nb2_turn {m0 p : Nat} {l : List Nat} {ks : List Int} {s : List Nat} {last : Nat} (hs : s = s.dropLast ++ [last]) (hq : ∀ q ∈ s.dropLast, q < l.length) (hk : ks.length < 5000) (s6 s7 : Sl) :
    ∃ s6' s7', nb2 [.val r, .val (iN m0), .own (nl l), .val (iN p), .own (.dct ks), .val (nl s), s6, s7] =
      .nx [.val r, .val (iN m0), .own (nl l), .val (iN p), .own (.dct (addK ks ((ovr (fun q => l.getD q 0) s.dropLast : Nat) : Int))), .val (nl s), s6', s7'] := by
  have hc := cut_last hs
  obtain ⟨s', h⟩ := xor_loop (ga := tgN 7) (F := nb3) (f := fun q => l.getD q 0) (st := fun t x => [.val r, .val (iN m0), .own (nl l), .val (iN p), .own (.dct ks), .val (nl s), .val (iN t), x]) s.dropLast 0 s7 fun t q s' hm => by
    refine ⟨_, rfl, ?_⟩
    unfold nb3
    simp only [Cn.runF_a, Cn.sSeq_a, Cn.sIf_a, Cn.sAsg_a, Cn.sOwn_a, Cn.sRet_a, Cn.sRetO_a, Cn.sNil_a, Cn.sRaise_a, Cn.sExpr_a, Cn.sFrz_a, Cn.sDrop_a, Cn.frz_a, Cn.sApp_a, Cn.sExt_a, Cn.sPut_a, Cn.sPutD_a, Cn.sFor_a, Cn.sWhile_a, Cn.eV_a, Cn.eO_a, Cn.eC_a, Cn.eOp_a, Cn.eUn_a, Cn.eAnd_a, Cn.eOr_a, Cn.eChain_a, Cn.eLst_a, Cn.eTup_a, Cn.eCall_a, Cn.eCallB_a, Cn.eSl_a, Cn.eComp_a, Cn.eYes_a, Cn.aNil_a, Cn.aCons_a, Cn.oNone_a, Cn.oSome_a, Cn.eDict1_a, Cn.iL_a, Cn.iT_a, Cn.iR1_a, Cn.iR2_a, Cn.iR3_a, Cn.tgN_a, Cn.bind_ok, Cn.bind_ex, Cn.rOut_ok, Cn.rOut_ex, List.map_cons, List.map_nil, List.length_cons, List.length_nil, List.cons_append, List.nil_append, List.replicate, List.set, List.getElem?_cons_zero, List.getElem?_cons_succ, Nat.reduceAdd, Nat.reduceSub, Cn.addD, Cn.subD, Cn.negD, Cn.notD, Cn.ltD, Cn.gtD, Cn.geD, Cn.leD, Cn.lenD, Cn.intD, Cn.listD, Cn.seqD, Cn.tupD, Cn.isi_ii, Cn.isi_ib, Cn.isi_bb, Cn.isi_ll, Cn.isi_tt, Cn.isi_ss, Cn.eqD_ii, Cn.neD_ii, Cn.eqD_ss, Cn.neD_ss, Cn.eqD_bb, Cn.neD_bb, decide_true, decide_false, Bool.not_true, Bool.not_false, ix_nl (hq q hm), xor_iN]
  refine ⟨.val (iN (ovr (fun q => l.getD q 0) s.dropLast)), s', ?_⟩
  rw [Nat.zero_xor] at h
  have h' : forL (tgN 7) nb3 (s.dropLast.map iN) [.val r, .val (iN m0), .own (nl l), .val (iN p), .own (.dct ks), .val (nl s), .val (.int 0), s7] = _ := h
  unfold nb2
  simp only [Cn.runF_a, Cn.sSeq_a, Cn.sIf_a, Cn.sAsg_a, Cn.sOwn_a, Cn.sRet_a, Cn.sRetO_a, Cn.sNil_a, Cn.sRaise_a, Cn.sExpr_a, Cn.sFrz_a, Cn.sDrop_a, Cn.frz_a, Cn.sApp_a, Cn.sExt_a, Cn.sPut_a, Cn.sPutD_a, Cn.sFor_a, Cn.sWhile_a, Cn.eV_a, Cn.eO_a, Cn.eC_a, Cn.eOp_a, Cn.eUn_a, Cn.eAnd_a, Cn.eOr_a, Cn.eChain_a, Cn.eLst_a, Cn.eTup_a, Cn.eCall_a, Cn.eCallB_a, Cn.eSl_a, Cn.eComp_a, Cn.eYes_a, Cn.aNil_a, Cn.aCons_a, Cn.oNone_a, Cn.oSome_a, Cn.eDict1_a, Cn.iL_a, Cn.iT_a, Cn.iR1_a, Cn.iR2_a, Cn.iR3_a, Cn.tgN_a, Cn.bind_ok, Cn.bind_ex, Cn.rOut_ok, Cn.rOut_ex, List.map_cons, List.map_nil, List.length_cons, List.length_nil, List.cons_append, List.nil_append, List.replicate, List.set, List.getElem?_cons_zero, List.getElem?_cons_succ, Nat.reduceAdd, Nat.reduceSub, Cn.addD, Cn.subD, Cn.negD, Cn.notD, Cn.ltD, Cn.gtD, Cn.geD, Cn.leD, Cn.lenD, Cn.intD, Cn.listD, Cn.seqD, Cn.tupD, Cn.isi_ii, Cn.isi_ib, Cn.isi_bb, Cn.isi_ll, Cn.isi_tt, Cn.isi_ss, Cn.eqD_ii, Cn.neD_ii, Cn.eqD_ss, Cn.neD_ss, Cn.eqD_bb, Cn.neD_bb, decide_true, decide_false, Bool.not_true, Bool.not_false, hc, h', if_pos (lt_LIM (show ks.length < 1000000 by omega))]
theorem nb1_turn (K : RuleOk r S B) {m0 p : Nat} (hp : p < B) (s3 s4 s5 s6 s7 : Sl) :
    ∃ s4' s5' s6' s7', nb1 [.val r, .val (iN m0), .own (nl (nums S p)), .val (iN p), s4, s5, s6, s7] =
      .nx [.val r, .val (iN m0), .own (nl (nums S (p + 1))), .val (iN p), s4', s5', s6', s7'] := by
  have hsh := K.shaped p hp
  have hsm := K.small p hp
  obtain ⟨j', h1, h2⟩ := fold_loop (ga := tgN 5) (F := nb2) (J := Sl × Sl × Sl) (P := fun i ks => ks.length ≤ i) (N := 1000) (enc := nl)
    (st := fun (ks : List Int) j => [.val r, .val (iN m0), .own (nl (nums S p)), .val (iN p), .own (.dct ks), j.1, j.2.1, j.2.2])
    (nxt := fun ks s => addK ks ((ovr (fun q => (nums S p).getD q 0) s.dropLast : Nat) : Int)) (S p) 0 [] (s5, s6, s7) (by omega) (Nat.le_refl 0) fun i ks j s hi hb hP => by
      obtain ⟨s6', s7', e⟩ := nb2_turn (r := r) (m0 := m0) (p := p) (l := nums S p) (ks := ks) (hsh s hb).1 (fun q hq => by rw [nums_len]; exact (hsh s hb).2 q hq) (by omega) j.2.1 j.2.2
      exact ⟨_, (.val (nl s), s6', s7'), rfl, e, Nat.le_trans len_addK (by omega)⟩
  have hd : (S p).foldl (fun ks s => addK ks ((ovr (fun q => (nums S p).getD q 0) s.dropLast : Nat) : Int)) [] = dk ((S p).map fun s => ovr (fun q => (nums S p).getD q 0) s.dropLast) [] := by
    unfold dk
    rw [List.foldl_map]
  rw [hd] at h1
  generalize hv : ((S p).map fun s => ovr (fun q => (nums S p).getD q 0) s.dropLast) = vs at h1
  have hlen : vs.length ≤ 1000 := by rw [← hv, List.length_map]; exact hsm
  have hstep : nums S (p + 1) = nums S p ++ [mexL vs] := by
    show nums S p ++ [stepN S (nums S p)] = _
    unfold stepN
    rw [nums_len, hv]
  have hm := mexL_len vs
  have W := whileF_mex (f := eOp inD (eV 6) (eO 4)) (F := sAsg 6 (eOp addD (eV 6) (eC (.int 1)))) (l := vs) (st := fun n => [.val r, .val (iN m0), .own (nl (nums S p)), .val (iN p), .own (.dct (dk vs [])), j'.1, .val (iN n), j'.2.2])
    (fun n => by
      have e : inD (iN n) (.dct (dk vs [])) = .ok (.bl (decide (n ∈ vs))) := by
        simp only [inD, inB]
        congr 2
        exact decide_eq_decide.mpr (by rw [mem_dk]; simp)
      simp only [Cn.runF_a, Cn.sSeq_a, Cn.sIf_a, Cn.sAsg_a, Cn.sOwn_a, Cn.sRet_a, Cn.sRetO_a, Cn.sNil_a, Cn.sRaise_a, Cn.sExpr_a, Cn.sFrz_a, Cn.sDrop_a, Cn.frz_a, Cn.sApp_a, Cn.sExt_a, Cn.sPut_a, Cn.sPutD_a, Cn.sFor_a, Cn.sWhile_a, Cn.eV_a, Cn.eO_a, Cn.eC_a, Cn.eOp_a, Cn.eUn_a, Cn.eAnd_a, Cn.eOr_a, Cn.eChain_a, Cn.eLst_a, Cn.eTup_a, Cn.eCall_a, Cn.eCallB_a, Cn.eSl_a, Cn.eComp_a, Cn.eYes_a, Cn.aNil_a, Cn.aCons_a, Cn.oNone_a, Cn.oSome_a, Cn.eDict1_a, Cn.iL_a, Cn.iT_a, Cn.iR1_a, Cn.iR2_a, Cn.iR3_a, Cn.tgN_a, Cn.bind_ok, Cn.bind_ex, Cn.rOut_ok, Cn.rOut_ex, List.map_cons, List.map_nil, List.length_cons, List.length_nil, List.cons_append, List.nil_append, List.replicate, List.set, List.getElem?_cons_zero, List.getElem?_cons_succ, Nat.reduceAdd, Nat.reduceSub, Cn.addD, Cn.subD, Cn.negD, Cn.notD, Cn.ltD, Cn.gtD, Cn.geD, Cn.leD, Cn.lenD, Cn.intD, Cn.listD, Cn.seqD, Cn.tupD, Cn.isi_ii, Cn.isi_ib, Cn.isi_bb, Cn.isi_ll, Cn.isi_tt, Cn.isi_ss, Cn.eqD_ii, Cn.neD_ii, Cn.eqD_ss, Cn.neD_ss, Cn.eqD_bb, Cn.neD_bb, decide_true, decide_false, Bool.not_true, Bool.not_false, e]) (fun n => by simp only [Cn.runF_a, Cn.sSeq_a, Cn.sIf_a, Cn.sAsg_a, Cn.sOwn_a, Cn.sRet_a, Cn.sRetO_a, Cn.sNil_a, Cn.sRaise_a, Cn.sExpr_a, Cn.sFrz_a, Cn.sDrop_a, Cn.frz_a, Cn.sApp_a, Cn.sExt_a, Cn.sPut_a, Cn.sPutD_a, Cn.sFor_a, Cn.sWhile_a, Cn.eV_a, Cn.eO_a, Cn.eC_a, Cn.eOp_a, Cn.eUn_a, Cn.eAnd_a, Cn.eOr_a, Cn.eChain_a, Cn.eLst_a, Cn.eTup_a, Cn.eCall_a, Cn.eCallB_a, Cn.eSl_a, Cn.eComp_a, Cn.eYes_a, Cn.aNil_a, Cn.aCons_a, Cn.oNone_a, Cn.oSome_a, Cn.eDict1_a, Cn.iL_a, Cn.iT_a, Cn.iR1_a, Cn.iR2_a, Cn.iR3_a, Cn.tgN_a, Cn.bind_ok, Cn.bind_ex, Cn.rOut_ok, Cn.rOut_ex, List.map_cons, List.map_nil, List.length_cons, List.length_nil, List.cons_append, List.nil_append, List.replicate, List.set, List.getElem?_cons_zero, List.getElem?_cons_succ, Nat.reduceAdd, Nat.reduceSub, Cn.addD, Cn.subD, Cn.negD, Cn.notD, Cn.ltD, Cn.gtD, Cn.geD, Cn.leD, Cn.lenD, Cn.intD, Cn.listD, Cn.seqD, Cn.tupD, Cn.isi_ii, Cn.isi_ib, Cn.isi_bb, Cn.isi_ll, Cn.isi_tt, Cn.isi_ss, Cn.eqD_ii, Cn.neD_ii, Cn.eqD_ss, Cn.neD_ss, Cn.eqD_bb, Cn.neD_bb, decide_true, decide_false, Bool.not_true, Bool.not_false]; rfl) 100000 0 (Nat.zero_le _) (by omega)
  have W' : whileF (eOp inD (eV 6) (eO 4)) (sAsg 6 (eOp addD (eV 6) (eC (.int 1)))) 100000 [.val r, .val (iN m0), .own (nl (nums S p)), .val (iN p), .own (.dct (dk vs [])), j'.1, .val (.int 0), j'.2.2] = _ := W
  have hfl : (nums S p).length < 1000000 := by rw [nums_len]; have := K.small p hp; exact Nat.lt_of_lt_of_le hp (by have := K.bound; omega)
  refine ⟨.own (.dct (dk vs [])), j'.1, .val (iN (mexL vs)), j'.2.2, ?_⟩
  unfold nb1
  simp only [Cn.runF_a, Cn.sSeq_a, Cn.sIf_a, Cn.sAsg_a, Cn.sOwn_a, Cn.sRet_a, Cn.sRetO_a, Cn.sNil_a, Cn.sRaise_a, Cn.sExpr_a, Cn.sFrz_a, Cn.sDrop_a, Cn.frz_a, Cn.sApp_a, Cn.sExt_a, Cn.sPut_a, Cn.sPutD_a, Cn.sFor_a, Cn.sWhile_a, Cn.eV_a, Cn.eO_a, Cn.eC_a, Cn.eOp_a, Cn.eUn_a, Cn.eAnd_a, Cn.eOr_a, Cn.eChain_a, Cn.eLst_a, Cn.eTup_a, Cn.eCall_a, Cn.eCallB_a, Cn.eSl_a, Cn.eComp_a, Cn.eYes_a, Cn.aNil_a, Cn.aCons_a, Cn.oNone_a, Cn.oSome_a, Cn.eDict1_a, Cn.iL_a, Cn.iT_a, Cn.iR1_a, Cn.iR2_a, Cn.iR3_a, Cn.tgN_a, Cn.bind_ok, Cn.bind_ex, Cn.rOut_ok, Cn.rOut_ex, List.map_cons, List.map_nil, List.length_cons, List.length_nil, List.cons_append, List.nil_append, List.replicate, List.set, List.getElem?_cons_zero, List.getElem?_cons_succ, Nat.reduceAdd, Nat.reduceSub, Cn.addD, Cn.subD, Cn.negD, Cn.notD, Cn.ltD, Cn.gtD, Cn.geD, Cn.leD, Cn.lenD, Cn.intD, Cn.listD, Cn.seqD, Cn.tupD, Cn.isi_ii, Cn.isi_ib, Cn.isi_bb, Cn.isi_ll, Cn.isi_tt, Cn.isi_ss, Cn.eqD_ii, Cn.neD_ii, Cn.eqD_ss, Cn.neD_ss, Cn.eqD_bb, Cn.neD_bb, decide_true, decide_false, Bool.not_true, Bool.not_false, K.shp p hp, seq_nll, h1, W', List.length_map, if_pos (lt_LIM hfl)]
  have hn : nl (nums S (p + 1)) = .lst ((nums S p).map iN ++ [iN (mexL vs)]) := by rw [hstep]; show D.lst ((nums S p ++ [mexL vs]).map iN) = _; rw [List.map_append]; rfl
  rw [hn]
theorem numbers_loop (K : RuleOk r S B) {m : Nat} (hm : m < B) : ∃ s3 s4 s5 s6 s7, forL (tgN 3) nb1 (rgL 0 ((m : Int) + 1)) [.val r, .val (iN m), .own (.lst []), .no, .no, .no, .no, .no] =
    .nx [.val r, .val (iN m), .own (nl (nums S (m + 1))), s3, s4, s5, s6, s7] := by
  obtain ⟨j', h⟩ := forL_ix (J := Sl × Sl × Sl × Sl × Sl) (ga := tgN 3) (F := nb1) ((List.range (m + 1)).map iN)
    (fun i j => [.val r, .val (iN m), .own (nl (nums S i)), j.1, j.2.1, j.2.2.1, j.2.2.2.1, j.2.2.2.2]) (.no, .no, .no, .no, .no) fun i hi j => by
      rw [List.length_map, List.length_range] at hi
      obtain ⟨s4, s5, s6, s7, e⟩ := nb1_turn K (m0 := m) (show i < B by omega) j.1 j.2.1 j.2.2.1 j.2.2.2.1 j.2.2.2.2
      refine ⟨[.val r, .val (iN m), .own (nl (nums S i)), .val (iN i), j.2.1, j.2.2.1, j.2.2.2.1, j.2.2.2.2], (.val (iN i), s4, s5, s6, s7), ?_, e⟩
      simp only [List.getElem_map, List.getElem_range, tgN_a, List.set]
  rw [List.length_map, List.length_range, ← rgL_nat, show ((m + 1 : Nat) : Int) = (m : Int) + 1 by omega] at h
  exact ⟨_, _, _, _, _, h⟩
theorem b_numbers_eq : b_numbers = (sSeq (sOwn 2 (eLst aNil)) (sSeq (sFor (iR1 (eOp addD (eV 1) (eC (.int 1)))) (tgN 3) nb1) (sRetO 2))) := by
  unfold b_numbers nb1 nb2 nb3
  rfl
theorem numbers_ok (K : RuleOk r S B) {m : Nat} (hm : m < B) : fn_numbers [r, iN m] = .ok (nl (nums S (m + 1))) := by
  have hB := K.bound
  obtain ⟨s3, s4, s5, s6, s7, h⟩ := numbers_loop K hm
  have hr := rg1_ok (show -1000000 ≤ (m : Int) + 1 ∧ (m : Int) + 1 ≤ 1000000 by omega)
  unfold fn_numbers
  rw [b_numbers_eq]
  simp only [Cn.runF_a, Cn.sSeq_a, Cn.sIf_a, Cn.sAsg_a, Cn.sOwn_a, Cn.sRet_a, Cn.sRetO_a, Cn.sNil_a, Cn.sRaise_a, Cn.sExpr_a, Cn.sFrz_a, Cn.sDrop_a, Cn.frz_a, Cn.sApp_a, Cn.sExt_a, Cn.sPut_a, Cn.sPutD_a, Cn.sFor_a, Cn.sWhile_a, Cn.eV_a, Cn.eO_a, Cn.eC_a, Cn.eOp_a, Cn.eUn_a, Cn.eAnd_a, Cn.eOr_a, Cn.eChain_a, Cn.eLst_a, Cn.eTup_a, Cn.eCall_a, Cn.eCallB_a, Cn.eSl_a, Cn.eComp_a, Cn.eYes_a, Cn.aNil_a, Cn.aCons_a, Cn.oNone_a, Cn.oSome_a, Cn.eDict1_a, Cn.iL_a, Cn.iT_a, Cn.iR1_a, Cn.iR2_a, Cn.iR3_a, Cn.tgN_a, Cn.bind_ok, Cn.bind_ex, Cn.rOut_ok, Cn.rOut_ex, List.map_cons, List.map_nil, List.length_cons, List.length_nil, List.cons_append, List.nil_append, List.replicate, List.set, List.getElem?_cons_zero, List.getElem?_cons_succ, Nat.reduceAdd, Nat.reduceSub, Cn.addD, Cn.subD, Cn.negD, Cn.notD, Cn.ltD, Cn.gtD, Cn.geD, Cn.leD, Cn.lenD, Cn.intD, Cn.listD, Cn.seqD, Cn.tupD, Cn.isi_ii, Cn.isi_ib, Cn.isi_bb, Cn.isi_ll, Cn.isi_tt, Cn.isi_ss, Cn.eqD_ii, Cn.neD_ii, Cn.eqD_ss, Cn.neD_ss, Cn.eqD_bb, Cn.neD_bb, decide_true, decide_false, Bool.not_true, Bool.not_false, hr, h]
end
theorem ovr_lt {f : Nat → Nat} {k : Nat} : ∀ {s : List Nat}, (∀ q ∈ s, f q < 2 ^ k) → ovr f s < 2 ^ k
  | [], _ => Nat.two_pow_pos k
  | a :: r, h => by
    rw [ovr_cons]
    exact Nat.xor_lt_two_pow (h a (List.mem_cons_self ..)) (ovr_lt fun q hq => h q (List.mem_cons_of_mem _ hq))
/-- the products below a product, by two lesser numbers -/
def Tart (A : Nat) : Prop := ∀ a, a < A → ∀ b, b < A → ∀ v, v < Nf.nim 4 a b → ∃ a' < a, ∃ b' < b, Nf.nim 4 (a ^^^ a') (b ^^^ b') = Nf.nim 4 a b ^^^ v
def tT : List (List Nat) := [[0, 0, 0, 0, 0, 0, 0, 0, 0, 0, 0, 0, 0, 0, 0, 0, 0], [0, 1, 2, 3, 4, 5, 6, 7, 8, 9, 10, 11, 12, 13, 14, 15, 16], [0, 2, 3, 1, 8, 10, 11, 9, 12, 14, 15, 13, 4, 6, 7, 5, 32], [0, 3, 1, 2, 12, 15, 13, 14, 4, 7, 5, 6, 8, 11, 9, 10, 48], [0, 4, 8, 12, 6, 2, 14, 10, 11, 15, 3, 7, 13, 9, 5, 1, 64], [0, 5, 10, 15, 2, 7, 8, 13, 3, 6, 9, 12, 1, 4, 11, 14, 80], [0, 6, 11, 13, 14, 8, 5, 3, 7, 1, 12, 10, 9, 15, 2, 4, 96], [0, 7, 9, 14, 10, 13, 3, 4, 15, 8, 6, 1, 5, 2, 12, 11, 112], [0, 8, 12, 4, 11, 3, 7, 15, 13, 5, 1, 9, 6, 14, 10, 2, 128], [0, 9, 14, 7, 15, 6, 1, 8, 5, 12, 11, 2, 10, 3, 4, 13, 144], [0, 10, 15, 5, 3, 9, 12, 6, 1, 11, 14, 4, 2, 8, 13, 7, 160], [0, 11, 13, 6, 7, 12, 10, 1, 9, 2, 4, 15, 14, 5, 3, 8, 176], [0, 12, 4, 8, 13, 1, 9, 5, 6, 10, 2, 14, 11, 7, 15, 3, 192], [0, 13, 6, 11, 9, 4, 15, 2, 14, 3, 8, 5, 7, 10, 1, 12, 208], [0, 14, 7, 9, 5, 11, 2, 12, 10, 4, 13, 3, 15, 1, 8, 6, 224], [0, 15, 5, 10, 1, 14, 4, 11, 2, 13, 7, 8, 3, 12, 6, 9, 240], [0, 16, 32, 48, 64, 80, 96, 112, 128, 144, 160, 176, 192, 208, 224, 240, 24]]
def tt (a b : Nat) : Nat := (tT.getD a []).getD b 0
theorem tt_ok : ∀ a, a < 17 → ∀ b, b < 17 → Nf.nim 3 a b = tt a b := by decide +kernel
def reachT (a b : Nat) : List Nat := (List.range a).flatMap fun x => (List.range b).map fun y => tt a y ^^^ (tt x b ^^^ tt x y)
def maskOf : List Nat → Nat
  | [] => 0
  | n :: r => 2 ^ n ||| maskOf r
theorem mask_bit : ∀ (l : List Nat) (v : Nat), (maskOf l).testBit v = true → v ∈ l
  | [], v, h => by
    unfold maskOf at h
    rw [Nat.zero_testBit] at h
    cases h
  | n :: r, v, h => by
    unfold maskOf at h
    rw [Nat.testBit_or, Bool.or_eq_true, Nat.testBit_two_pow, decide_eq_true_eq] at h
    rcases h with h | h
    · rw [h]; exact List.mem_cons_self ..
    · exact List.mem_cons_of_mem _ (mask_bit r v h)
theorem mask_full : ∀ a, a < 17 → ∀ b, b < 17 → maskOf (reachT a b) % 2 ^ tt a b = 2 ^ tt a b - 1 := by decide +kernel
theorem nim_mid {a b : Nat} (ha : a < 256) (hb : b < 256) : Nf.nim 4 a b = Nf.nim 3 a b := by
  have w3 : Nf.W 3 = 256 := by decide
  exact Nf.nim_low 3 a b (by omega) (by omega)
theorem nim_addl (k a b c : Nat) : Nf.nim k (a ^^^ b) c = Nf.nim k a c ^^^ Nf.nim k b c := by
  rw [Nf.nim_comm, Nf.nim_add, Nf.nim_comm k c a, Nf.nim_comm k c b]
theorem tart17 : Tart 17 := by
  intro a ha b hb v hv
  have e : ∀ {a b : Nat}, a < 17 → b < 17 → Nf.nim 4 a b = tt a b := fun {a b} h1 h2 => by
    rw [nim_mid (by omega) (by omega), tt_ok a h1 b h2]
  have e0 := e ha hb
  rw [e0] at hv
  have hm : (maskOf (reachT a b)).testBit v = true := by
    have h1 : (maskOf (reachT a b) % 2 ^ tt a b).testBit v = (2 ^ tt a b - 1).testBit v := congrArg (fun n => Nat.testBit n v) (mask_full a ha b hb)
    rw [Nat.testBit_mod_two_pow, Nat.testBit_two_pow_sub_one, decide_eq_true hv, Bool.true_and] at h1
    exact h1
  obtain ⟨x, hx, h1⟩ := List.mem_flatMap.mp (mask_bit _ _ hm)
  obtain ⟨y, hy, rfl⟩ := List.mem_map.mp h1
  have hx := List.mem_range.mp hx
  have hy := List.mem_range.mp hy
  refine ⟨x, hx, y, hy, ?_⟩
  rw [Nf.nim_add, nim_addl, nim_addl, e0, e ha (show y < 17 by omega), e (show x < 17 by omega) hb, e (show x < 17 by omega) (show y < 17 by omega)]
  have c : tt x b ^^^ (tt a y ^^^ tt x y) = tt a y ^^^ (tt x b ^^^ tt x y) := by
    rw [← Nat.xor_assoc, Nat.xor_comm (tt x b), Nat.xor_assoc]
  rw [Nat.xor_assoc, c]
theorem le_LIM {n : Nat} (h : n ≤ 1000000) : n ≤ LIM := by rw [LIM_eq]; exact h
theorem nodiv_k : ∀ a, a < 32 → ∀ b, b < 32 → Nf.nim 3 a b = 0 → a = 0 ∨ b = 0 := by decide +kernel
theorem nodiv {a b : Nat} (ha : a < 32) (hb : b < 32) (h : Nf.nim 4 a b = 0) : a = 0 ∨ b = 0 := nodiv_k a ha b hb (by rw [← nim_mid (by omega) (by omega)]; exact h)
theorem ix_nll {L : List (List Nat)} {p : Nat} (h : p < L.length) : ixD (nll L) (iN p) = .ok (nl (L.getD p [])) := by
  have e : atI (L.map nl) (p : Int) = some (nl (L.getD p [])) := by
    refine atI_nat ?_
    rw [List.getElem?_map, List.getD_eq_getElem?_getD, List.getElem?_eq_getElem h]
    rfl
  simp only [ixD, e]
theorem foldl_snoc {α β : Type} (g : β → α) : ∀ (l : List β) (fs : List α), l.foldl (fun fs b => fs ++ [g b]) fs = fs ++ l.map g
  | [], fs => by simp
  | b :: r, fs => by rw [List.foldl_cons, foldl_snoc g r, List.map_cons, List.append_assoc]; rfl
structure Ok13 (r : D) (S : Nat → List (List Nat)) : Prop where
  k : RuleOk r S 5
  ls : ∀ p, p < 5 → fn__law_shapes [r, iN p] = .ok (nll (S p))
  few : ∀ p, p < 5 → (S p).length ≤ 100
  low : ∀ p, p < 5 → num1 S p < 17
section
variable {rx ry : D} {Sx Sy : Nat → List (List Nat)}
theorem board_number_ok (X : Ok13 rx Sx) (Y : Ok13 ry Sy) {x y : Nat} (hx : x < 5) (hy : y < 5) : fn_board_number [rx, ry, iN x, iN y] = .ok (iN (Nf.nim 4 (num1 Sx x) (num1 Sy y))) := by
  have nx := numbers_ok X.k hx
  have ny := numbers_ok Y.k hy
  have ix := @ix_nl (nums Sx (x + 1)) x (by rw [nums_len]; omega)
  have iy := @ix_nl (nums Sy (y + 1)) y (by rw [nums_len]; omega)
  rw [nums_get Sx (show x < x + 1 by omega)] at ix
  rw [nums_get Sy (show y < y + 1 by omega)] at iy
  have l1 := X.low x hx
  have l2 := Y.low y hy
  have ht := @times_ok (num1 Sx x) (num1 Sy y) (by omega) (by omega)
  unfold fn_board_number b_board_number
  simp only [Cn.runF_a, Cn.sSeq_a, Cn.sIf_a, Cn.sAsg_a, Cn.sOwn_a, Cn.sRet_a, Cn.sRetO_a, Cn.sNil_a, Cn.sRaise_a, Cn.sExpr_a, Cn.sFrz_a, Cn.sDrop_a, Cn.frz_a, Cn.sApp_a, Cn.sExt_a, Cn.sPut_a, Cn.sPutD_a, Cn.sFor_a, Cn.sWhile_a, Cn.eV_a, Cn.eO_a, Cn.eC_a, Cn.eOp_a, Cn.eUn_a, Cn.eAnd_a, Cn.eOr_a, Cn.eChain_a, Cn.eLst_a, Cn.eTup_a, Cn.eCall_a, Cn.eCallB_a, Cn.eSl_a, Cn.eComp_a, Cn.eYes_a, Cn.aNil_a, Cn.aCons_a, Cn.oNone_a, Cn.oSome_a, Cn.eDict1_a, Cn.iL_a, Cn.iT_a, Cn.iR1_a, Cn.iR2_a, Cn.iR3_a, Cn.tgN_a, Cn.bind_ok, Cn.bind_ex, Cn.rOut_ok, Cn.rOut_ex, List.map_cons, List.map_nil, List.length_cons, List.length_nil, List.cons_append, List.nil_append, List.replicate, List.set, List.getElem?_cons_zero, List.getElem?_cons_succ, Nat.reduceAdd, Nat.reduceSub, Cn.addD, Cn.subD, Cn.negD, Cn.notD, Cn.ltD, Cn.gtD, Cn.geD, Cn.leD, Cn.lenD, Cn.intD, Cn.listD, Cn.seqD, Cn.tupD, Cn.isi_ii, Cn.isi_ib, Cn.isi_bb, Cn.isi_ll, Cn.isi_tt, Cn.isi_ss, Cn.eqD_ii, Cn.neD_ii, Cn.eqD_ss, Cn.neD_ss, Cn.eqD_bb, Cn.neD_bb, decide_true, decide_false, Bool.not_true, Bool.not_false, X.k.asked, Y.k.asked, decide_eq_false (show ¬ (x : Int) < 0 by omega), decide_eq_false (show ¬ (y : Int) < 0 by omega), decide_eq_false (show ¬ (16 : Int) ≤ (x : Int) by omega), decide_eq_false (show ¬ (16 : Int) ≤ (y : Int) by omega), nx, ny, ix, iy, ht]
theorem lnumber_ok {n : Nat} (h : n < 65536) : fn__law_number [iN n] = .ok (.bl true) := by
  unfold fn__law_number b__law_number
  simp only [Cn.runF_a, Cn.sSeq_a, Cn.sIf_a, Cn.sAsg_a, Cn.sOwn_a, Cn.sRet_a, Cn.sRetO_a, Cn.sNil_a, Cn.sRaise_a, Cn.sExpr_a, Cn.sFrz_a, Cn.sDrop_a, Cn.frz_a, Cn.sApp_a, Cn.sExt_a, Cn.sPut_a, Cn.sPutD_a, Cn.sFor_a, Cn.sWhile_a, Cn.eV_a, Cn.eO_a, Cn.eC_a, Cn.eOp_a, Cn.eUn_a, Cn.eAnd_a, Cn.eOr_a, Cn.eChain_a, Cn.eLst_a, Cn.eTup_a, Cn.eCall_a, Cn.eCallB_a, Cn.eSl_a, Cn.eComp_a, Cn.eYes_a, Cn.aNil_a, Cn.aCons_a, Cn.oNone_a, Cn.oSome_a, Cn.eDict1_a, Cn.iL_a, Cn.iT_a, Cn.iR1_a, Cn.iR2_a, Cn.iR3_a, Cn.tgN_a, Cn.bind_ok, Cn.bind_ex, Cn.rOut_ok, Cn.rOut_ex, List.map_cons, List.map_nil, List.length_cons, List.length_nil, List.cons_append, List.nil_append, List.replicate, List.set, List.getElem?_cons_zero, List.getElem?_cons_succ, Nat.reduceAdd, Nat.reduceSub, Cn.addD, Cn.subD, Cn.negD, Cn.notD, Cn.ltD, Cn.gtD, Cn.geD, Cn.leD, Cn.lenD, Cn.intD, Cn.listD, Cn.seqD, Cn.tupD, Cn.isi_ii, Cn.isi_ib, Cn.isi_bb, Cn.isi_ll, Cn.isi_tt, Cn.isi_ss, Cn.eqD_ii, Cn.neD_ii, Cn.eqD_ss, Cn.neD_ss, Cn.eqD_bb, Cn.neD_bb, decide_true, decide_false, Bool.not_true, Bool.not_false, eChain_a, decide_eq_true (show (0 : Int) ≤ (n : Int) by omega), decide_eq_true (show (n : Int) < 65536 by omega)]
/-- the number of the place -/
def fxy (Sx Sy : Nat → List (List Nat)) (x y : Nat) : Nat := Nf.nim 4 (num1 Sx x) (num1 Sy y)
def rowT (Sx Sy : Nat → List (List Nat)) (b x : Nat) : List Nat := (List.range (b + 1)).map fun y => fxy Sx Sy x y
def told (Sx Sy : Nat → List (List Nat)) (a b : Nat) : List (List Nat) := (List.range (a + 1)).map (rowT Sx Sy b)
theorem fxy_lt (x y : Nat) : fxy Sx Sy x y < 65536 := Nf.nim_lt 4 _ _
def rn2 : SFn := (sIf (eUn notD (eCall fn__law_number (aCons (eV 9) aNil)))
    (sRet (eC (.bl false)))
    sNil)
def rn1 : SFn := (sSeq (sAsg 7 (eComp (iR1 (eOp addD (eV 4) (eC (.int 1)))) 8 eYes (eCall fn_board_number (aCons (eV 1) (aCons (eV 2) (aCons (eV 6) (aCons (eV 8) aNil)))))))
    (sSeq (sFor (iL (eV 7)) (tgN 9) rn2)
    (sApp 5 (eV 7))))
theorem rn2_loop (s1 s2 s3 s4 s5 s6 s7 : Sl) : ∀ (l : List Nat) (s9 : Sl), (∀ n ∈ l, n < 65536) → ∃ s9', forL (tgN 9) rn2 (l.map iN) [.no, s1, s2, s3, s4, s5, s6, s7, .no, s9, .no, .no, .no, .no] = .nx [.no, s1, s2, s3, s4, s5, s6, s7, .no, s9', .no, .no, .no, .no]
  | [], s9, _ => ⟨s9, rfl⟩
  | n :: r, s9, h => by
    obtain ⟨s', e⟩ := rn2_loop s1 s2 s3 s4 s5 s6 s7 r (.val (iN n)) fun m hm => h m (List.mem_cons_of_mem _ hm)
    refine ⟨s', ?_⟩
    have hn := lnumber_ok (h n (List.mem_cons_self ..))
    rw [List.map_cons]
    unfold rn2 at e ⊢
    simp only [Cn.runF_a, Cn.sSeq_a, Cn.sIf_a, Cn.sAsg_a, Cn.sOwn_a, Cn.sRet_a, Cn.sRetO_a, Cn.sNil_a, Cn.sRaise_a, Cn.sExpr_a, Cn.sFrz_a, Cn.sDrop_a, Cn.frz_a, Cn.sApp_a, Cn.sExt_a, Cn.sPut_a, Cn.sPutD_a, Cn.sFor_a, Cn.sWhile_a, Cn.eV_a, Cn.eO_a, Cn.eC_a, Cn.eOp_a, Cn.eUn_a, Cn.eAnd_a, Cn.eOr_a, Cn.eChain_a, Cn.eLst_a, Cn.eTup_a, Cn.eCall_a, Cn.eCallB_a, Cn.eSl_a, Cn.eComp_a, Cn.eYes_a, Cn.aNil_a, Cn.aCons_a, Cn.oNone_a, Cn.oSome_a, Cn.eDict1_a, Cn.iL_a, Cn.iT_a, Cn.iR1_a, Cn.iR2_a, Cn.iR3_a, Cn.tgN_a, Cn.bind_ok, Cn.bind_ex, Cn.rOut_ok, Cn.rOut_ex, List.map_cons, List.map_nil, List.length_cons, List.length_nil, List.cons_append, List.nil_append, List.replicate, List.set, List.getElem?_cons_zero, List.getElem?_cons_succ, Nat.reduceAdd, Nat.reduceSub, Cn.addD, Cn.subD, Cn.negD, Cn.notD, Cn.ltD, Cn.gtD, Cn.geD, Cn.leD, Cn.lenD, Cn.intD, Cn.listD, Cn.seqD, Cn.tupD, Cn.isi_ii, Cn.isi_ib, Cn.isi_bb, Cn.isi_ll, Cn.isi_tt, Cn.isi_ss, Cn.eqD_ii, Cn.neD_ii, Cn.eqD_ss, Cn.neD_ss, Cn.eqD_bb, Cn.neD_bb, decide_true, decide_false, Bool.not_true, Bool.not_false, forL_cons, hn, e]
theorem rn1_turn (X : Ok13 rx Sx) (Y : Ok13 ry Sy) {b x : Nat} (hx : x < 5) (hb : b < 5) (T : List (List Nat)) (hT : T.length ≤ 100) (s3 s7 s9 : Sl) :
    ∃ s7' s9', rn1 [.no, .val rx, .val ry, s3, .val (iN b), .own (nll T), .val (iN x), s7, .no, s9, .no, .no, .no, .no] =
      .nx [.no, .val rx, .val ry, s3, .val (iN b), .own (nll (T ++ [rowT Sx Sy b x])), .val (iN x), s7', .no, s9', .no, .no, .no, .no] := by
  have hr : rg1D (.int ((b : Int) + 1)) = .ok ((List.range (b + 1)).map iN) := by
    rw [rg1_ok (by omega), show (b : Int) + 1 = ((b + 1 : Nat) : Int) by omega]
    exact congrArg R.ok (rgL_nat (b + 1))
  have hc : compL 8 eYes (eCall fn_board_number (aCons (eV 1) (aCons (eV 2) (aCons (eV 6) (aCons (eV 8) aNil))))) [.no, .val rx, .val ry, s3, .val (iN b), .own (nll T), .val (iN x), s7, .no, s9, .no, .no, .no, .no] ((List.range (b + 1)).map iN) = .ok ((rowT Sx Sy b x).map iN) := by
    rw [compL_all (g := fun d => match d with | .int i => iN (fxy Sx Sy x i.toNat) | d => d)]
    · unfold rowT
      rw [List.map_map, List.map_map]; rfl
    · intro d hd
      obtain ⟨y, hy, rfl⟩ := List.mem_map.mp hd
      have hy := List.mem_range.mp hy
      simp only [Cn.runF_a, Cn.sSeq_a, Cn.sIf_a, Cn.sAsg_a, Cn.sOwn_a, Cn.sRet_a, Cn.sRetO_a, Cn.sNil_a, Cn.sRaise_a, Cn.sExpr_a, Cn.sFrz_a, Cn.sDrop_a, Cn.frz_a, Cn.sApp_a, Cn.sExt_a, Cn.sPut_a, Cn.sPutD_a, Cn.sFor_a, Cn.sWhile_a, Cn.eV_a, Cn.eO_a, Cn.eC_a, Cn.eOp_a, Cn.eUn_a, Cn.eAnd_a, Cn.eOr_a, Cn.eChain_a, Cn.eLst_a, Cn.eTup_a, Cn.eCall_a, Cn.eCallB_a, Cn.eSl_a, Cn.eComp_a, Cn.eYes_a, Cn.aNil_a, Cn.aCons_a, Cn.oNone_a, Cn.oSome_a, Cn.eDict1_a, Cn.iL_a, Cn.iT_a, Cn.iR1_a, Cn.iR2_a, Cn.iR3_a, Cn.tgN_a, Cn.bind_ok, Cn.bind_ex, Cn.rOut_ok, Cn.rOut_ex, List.map_cons, List.map_nil, List.length_cons, List.length_nil, List.cons_append, List.nil_append, List.replicate, List.set, List.getElem?_cons_zero, List.getElem?_cons_succ, Nat.reduceAdd, Nat.reduceSub, Cn.addD, Cn.subD, Cn.negD, Cn.notD, Cn.ltD, Cn.gtD, Cn.geD, Cn.leD, Cn.lenD, Cn.intD, Cn.listD, Cn.seqD, Cn.tupD, Cn.isi_ii, Cn.isi_ib, Cn.isi_bb, Cn.isi_ll, Cn.isi_tt, Cn.isi_ss, Cn.eqD_ii, Cn.neD_ii, Cn.eqD_ss, Cn.neD_ss, Cn.eqD_bb, Cn.neD_bb, decide_true, decide_false, Bool.not_true, Bool.not_false, board_number_ok X Y hx (show y < 5 by omega)]
      rfl
  obtain ⟨s9', e⟩ := rn2_loop (.val rx) (.val ry) s3 (.val (iN b)) (.own (nll T)) (.val (iN x)) (.val (nl (rowT Sx Sy b x))) (rowT Sx Sy b x) s9 fun n hn => by
    obtain ⟨y, _, rfl⟩ := List.mem_map.mp hn
    exact fxy_lt x y
  have hn : nll (T ++ [rowT Sx Sy b x]) = .lst (T.map nl ++ [nl (rowT Sx Sy b x)]) := by
    show D.lst (List.map nl (T ++ [_])) = _
    rw [List.map_append]
    rfl
  refine ⟨.val (nl (rowT Sx Sy b x)), s9', ?_⟩
  unfold rn1
  simp only [Cn.runF_a, Cn.sSeq_a, Cn.sIf_a, Cn.sAsg_a, Cn.sOwn_a, Cn.sRet_a, Cn.sRetO_a, Cn.sNil_a, Cn.sRaise_a, Cn.sExpr_a, Cn.sFrz_a, Cn.sDrop_a, Cn.frz_a, Cn.sApp_a, Cn.sExt_a, Cn.sPut_a, Cn.sPutD_a, Cn.sFor_a, Cn.sWhile_a, Cn.eV_a, Cn.eO_a, Cn.eC_a, Cn.eOp_a, Cn.eUn_a, Cn.eAnd_a, Cn.eOr_a, Cn.eChain_a, Cn.eLst_a, Cn.eTup_a, Cn.eCall_a, Cn.eCallB_a, Cn.eSl_a, Cn.eComp_a, Cn.eYes_a, Cn.aNil_a, Cn.aCons_a, Cn.oNone_a, Cn.oSome_a, Cn.eDict1_a, Cn.iL_a, Cn.iT_a, Cn.iR1_a, Cn.iR2_a, Cn.iR3_a, Cn.tgN_a, Cn.bind_ok, Cn.bind_ex, Cn.rOut_ok, Cn.rOut_ex, List.map_cons, List.map_nil, List.length_cons, List.length_nil, List.cons_append, List.nil_append, List.replicate, List.set, List.getElem?_cons_zero, List.getElem?_cons_succ, Nat.reduceAdd, Nat.reduceSub, Cn.addD, Cn.subD, Cn.negD, Cn.notD, Cn.ltD, Cn.gtD, Cn.geD, Cn.leD, Cn.lenD, Cn.intD, Cn.listD, Cn.seqD, Cn.tupD, Cn.isi_ii, Cn.isi_ib, Cn.isi_bb, Cn.isi_ll, Cn.isi_tt, Cn.isi_ss, Cn.eqD_ii, Cn.neD_ii, Cn.eqD_ss, Cn.neD_ss, Cn.eqD_bb, Cn.neD_bb, decide_true, decide_false, Bool.not_true, Bool.not_false, hr, List.length_map, List.length_range, if_pos (le_LIM (show b + 1 ≤ 1000000 by omega)), hc, seq_nl, e, if_pos (lt_LIM (show T.length < 1000000 by omega))]
  rw [hn]
theorem told_loop (X : Ok13 rx Sx) (Y : Ok13 ry Sy) {a b : Nat} (ha : a < 5) (hb : b < 5) (s3 : Sl) : ∃ s6 s7 s9, forL (tgN 6) rn1 ((List.range (a + 1)).map iN) [.no, .val rx, .val ry, s3, .val (iN b), .own (.lst []), .no, .no, .no, .no, .no, .no, .no, .no] =
    .nx [.no, .val rx, .val ry, s3, .val (iN b), .own (nll (told Sx Sy a b)), s6, s7, .no, s9, .no, .no, .no, .no] := by
  obtain ⟨s, h, _⟩ := fold_loop (ga := tgN 6) (F := rn1) (J := Sl × Sl × Sl) (P := fun i (T : List (List Nat)) => T.length ≤ i) (N := 5) (enc := iN)
    (st := fun T s => [.no, .val rx, .val ry, s3, .val (iN b), .own (nll T), s.1, s.2.1, .no, s.2.2, .no, .no, .no, .no]) (nxt := fun T x => T ++ [rowT Sx Sy b x]) (List.range (a + 1)) 0 [] (.no, .no, .no) (by rw [List.length_range]; omega) (Nat.le_refl 0) fun i T s x hi hx hP => by
      have hx := List.mem_range.mp hx
      obtain ⟨s7', s9', e⟩ := rn1_turn X Y (show x < 5 by omega) hb T (by omega) s3 s.2.1 s.2.2
      exact ⟨_, (.val (iN x), s7', s9'), rfl, e, by rw [List.length_append, List.length_singleton]; omega⟩
  rw [foldl_snoc, List.nil_append] at h
  exact ⟨_, _, _, h⟩
theorem told_at {a b x y : Nat} (hx : x ≤ a) (hy : y ≤ b) : ixD (nll (told Sx Sy a b)) (iN x) = .ok (nl (rowT Sx Sy b x)) ∧ ixD (nl (rowT Sx Sy b x)) (iN y) = .ok (iN (fxy Sx Sy x y)) := by
  have l1 : x < (told Sx Sy a b).length := by unfold told; rw [List.length_map, List.length_range]; omega
  have l2 : y < (rowT Sx Sy b x).length := by unfold rowT; rw [List.length_map, List.length_range]; omega
  refine ⟨?_, ?_⟩
  · rw [ix_nll l1, List.getD_eq_getElem?_getD]
    unfold told
    rw [List.getElem?_map, List.getElem?_range (show x < a + 1 by omega)]
    rfl
  · rw [ix_nl l2, List.getD_eq_getElem?_getD]
    unfold rowT
    rw [List.getElem?_map, List.getElem?_range (show y < b + 1 by omega)]
    rfl
/-- what is summed besides the last one -/
def bx (Sx Sy : Nat → List (List Nat)) (a b x y : Nat) : Nat := if x ≠ a ∨ y ≠ b then fxy Sx Sy x y else 0
def sb2 : SFn := (sIf (eOr (eOp neD (eV 4) (eOp ixD (eV 1) (eUn negD (eC (.int 1))))) (eOp neD (eV 5) (eOp ixD (eV 2) (eUn negD (eC (.int 1))))))
    (sAsg 3 (eOp xorD (eV 3) (eOp ixD (eOp ixD (eV 0) (eV 4)) (eV 5))))
    sNil)
def sb1 : SFn := (sFor (iL (eV 2)) (tgN 5) sb2)
theorem last_nl {l : List Nat} {p : Nat} (h : l = l.dropLast ++ [p]) : ixD (nl l) (.int (-1)) = .ok (iN p) := by
  have e : atI (l.map iN) (-1) = some (iN p) := by
    rw [h, List.map_append]
    generalize l.dropLast.map iN = m
    have hi : ixN (m ++ [p].map iN).length (-1) = some m.length := by
      unfold ixN
      rw [if_neg (by decide), List.length_append, List.map_singleton, List.length_singleton, if_pos (by omega)]
      congr 1
      omega
    unfold atI
    rw [hi]
    show (m ++ [iN p])[m.length]? = some (iN p)
    rw [List.getElem?_append_right (Nat.le_refl _), Nat.sub_self]
    rfl
  simp only [ixD, e]
theorem sb2_turn {a b x y t : Nat} {xs ys : List Nat} (hx : xs = xs.dropLast ++ [a]) (hy : ys = ys.dropLast ++ [b]) (hxa : x ≤ a) (hyb : y ≤ b) :
    sb2 [.val (nll (told Sx Sy a b)), .val (nl xs), .val (nl ys), .val (iN t), .val (iN x), .val (iN y)] = .nx [.val (nll (told Sx Sy a b)), .val (nl xs), .val (nl ys), .val (iN (t ^^^ bx Sx Sy a b x y)), .val (iN x), .val (iN y)] := by
  obtain ⟨h1, h2⟩ := @told_at Sx Sy a b x y hxa hyb
  have lx := last_nl hx
  have ly := last_nl hy
  unfold sb2 bx
  by_cases q1 : x = a
  · by_cases q2 : y = b
    · rw [if_neg (by omega)]
      simp only [Cn.runF_a, Cn.sSeq_a, Cn.sIf_a, Cn.sAsg_a, Cn.sOwn_a, Cn.sRet_a, Cn.sRetO_a, Cn.sNil_a, Cn.sRaise_a, Cn.sExpr_a, Cn.sFrz_a, Cn.sDrop_a, Cn.frz_a, Cn.sApp_a, Cn.sExt_a, Cn.sPut_a, Cn.sPutD_a, Cn.sFor_a, Cn.sWhile_a, Cn.eV_a, Cn.eO_a, Cn.eC_a, Cn.eOp_a, Cn.eUn_a, Cn.eAnd_a, Cn.eOr_a, Cn.eChain_a, Cn.eLst_a, Cn.eTup_a, Cn.eCall_a, Cn.eCallB_a, Cn.eSl_a, Cn.eComp_a, Cn.eYes_a, Cn.aNil_a, Cn.aCons_a, Cn.oNone_a, Cn.oSome_a, Cn.eDict1_a, Cn.iL_a, Cn.iT_a, Cn.iR1_a, Cn.iR2_a, Cn.iR3_a, Cn.tgN_a, Cn.bind_ok, Cn.bind_ex, Cn.rOut_ok, Cn.rOut_ex, List.map_cons, List.map_nil, List.length_cons, List.length_nil, List.cons_append, List.nil_append, List.replicate, List.set, List.getElem?_cons_zero, List.getElem?_cons_succ, Nat.reduceAdd, Nat.reduceSub, Cn.addD, Cn.subD, Cn.negD, Cn.notD, Cn.ltD, Cn.gtD, Cn.geD, Cn.leD, Cn.lenD, Cn.intD, Cn.listD, Cn.seqD, Cn.tupD, Cn.isi_ii, Cn.isi_ib, Cn.isi_bb, Cn.isi_ll, Cn.isi_tt, Cn.isi_ss, Cn.eqD_ii, Cn.neD_ii, Cn.eqD_ss, Cn.neD_ss, Cn.eqD_bb, Cn.neD_bb, decide_true, decide_false, Bool.not_true, Bool.not_false, lx, ly, decide_eq_true (show (x : Int) = (a : Int) by omega), decide_eq_true (show (y : Int) = (b : Int) by omega), Nat.xor_zero]
    · rw [if_pos (by omega)]
      simp only [Cn.runF_a, Cn.sSeq_a, Cn.sIf_a, Cn.sAsg_a, Cn.sOwn_a, Cn.sRet_a, Cn.sRetO_a, Cn.sNil_a, Cn.sRaise_a, Cn.sExpr_a, Cn.sFrz_a, Cn.sDrop_a, Cn.frz_a, Cn.sApp_a, Cn.sExt_a, Cn.sPut_a, Cn.sPutD_a, Cn.sFor_a, Cn.sWhile_a, Cn.eV_a, Cn.eO_a, Cn.eC_a, Cn.eOp_a, Cn.eUn_a, Cn.eAnd_a, Cn.eOr_a, Cn.eChain_a, Cn.eLst_a, Cn.eTup_a, Cn.eCall_a, Cn.eCallB_a, Cn.eSl_a, Cn.eComp_a, Cn.eYes_a, Cn.aNil_a, Cn.aCons_a, Cn.oNone_a, Cn.oSome_a, Cn.eDict1_a, Cn.iL_a, Cn.iT_a, Cn.iR1_a, Cn.iR2_a, Cn.iR3_a, Cn.tgN_a, Cn.bind_ok, Cn.bind_ex, Cn.rOut_ok, Cn.rOut_ex, List.map_cons, List.map_nil, List.length_cons, List.length_nil, List.cons_append, List.nil_append, List.replicate, List.set, List.getElem?_cons_zero, List.getElem?_cons_succ, Nat.reduceAdd, Nat.reduceSub, Cn.addD, Cn.subD, Cn.negD, Cn.notD, Cn.ltD, Cn.gtD, Cn.geD, Cn.leD, Cn.lenD, Cn.intD, Cn.listD, Cn.seqD, Cn.tupD, Cn.isi_ii, Cn.isi_ib, Cn.isi_bb, Cn.isi_ll, Cn.isi_tt, Cn.isi_ss, Cn.eqD_ii, Cn.neD_ii, Cn.eqD_ss, Cn.neD_ss, Cn.eqD_bb, Cn.neD_bb, decide_true, decide_false, Bool.not_true, Bool.not_false, lx, ly, decide_eq_true (show (x : Int) = (a : Int) by omega), decide_eq_false (show ¬ (y : Int) = (b : Int) by omega), h1, h2, xor_iN]
  · rw [if_pos (by omega)]
    simp only [Cn.runF_a, Cn.sSeq_a, Cn.sIf_a, Cn.sAsg_a, Cn.sOwn_a, Cn.sRet_a, Cn.sRetO_a, Cn.sNil_a, Cn.sRaise_a, Cn.sExpr_a, Cn.sFrz_a, Cn.sDrop_a, Cn.frz_a, Cn.sApp_a, Cn.sExt_a, Cn.sPut_a, Cn.sPutD_a, Cn.sFor_a, Cn.sWhile_a, Cn.eV_a, Cn.eO_a, Cn.eC_a, Cn.eOp_a, Cn.eUn_a, Cn.eAnd_a, Cn.eOr_a, Cn.eChain_a, Cn.eLst_a, Cn.eTup_a, Cn.eCall_a, Cn.eCallB_a, Cn.eSl_a, Cn.eComp_a, Cn.eYes_a, Cn.aNil_a, Cn.aCons_a, Cn.oNone_a, Cn.oSome_a, Cn.eDict1_a, Cn.iL_a, Cn.iT_a, Cn.iR1_a, Cn.iR2_a, Cn.iR3_a, Cn.tgN_a, Cn.bind_ok, Cn.bind_ex, Cn.rOut_ok, Cn.rOut_ex, List.map_cons, List.map_nil, List.length_cons, List.length_nil, List.cons_append, List.nil_append, List.replicate, List.set, List.getElem?_cons_zero, List.getElem?_cons_succ, Nat.reduceAdd, Nat.reduceSub, Cn.addD, Cn.subD, Cn.negD, Cn.notD, Cn.ltD, Cn.gtD, Cn.geD, Cn.leD, Cn.lenD, Cn.intD, Cn.listD, Cn.seqD, Cn.tupD, Cn.isi_ii, Cn.isi_ib, Cn.isi_bb, Cn.isi_ll, Cn.isi_tt, Cn.isi_ss, Cn.eqD_ii, Cn.neD_ii, Cn.eqD_ss, Cn.neD_ss, Cn.eqD_bb, Cn.neD_bb, decide_true, decide_false, Bool.not_true, Bool.not_false, lx, ly, decide_eq_false (show ¬ (x : Int) = (a : Int) by omega), h1, h2, xor_iN]
theorem le_of_shaped {S : Nat → List (List Nat)} {p : Nat} (h : Cn.Shaped S p) {s : List Nat} (hs : s ∈ S p) : ∀ q ∈ s, q ≤ p := by
  intro q hq
  have hsh := h s hs
  rw [hsh.1] at hq
  rcases List.mem_append.mp hq with hq | hq
  · have := hsh.2 q hq; omega
  · rw [List.mem_singleton] at hq; omega
theorem besides_ok {a b : Nat} {xs ys : List Nat} (hx : xs = xs.dropLast ++ [a]) (hy : ys = ys.dropLast ++ [b]) (mx : ∀ q ∈ xs, q ≤ a) (my : ∀ q ∈ ys, q ≤ b) :
    fn__law_besides [nll (told Sx Sy a b), nl xs, nl ys] = .ok (iN (ovr (fun x => ovr (bx Sx Sy a b x) ys) xs)) := by
  obtain ⟨s, h, _⟩ := fold_loop (ga := tgN 4) (F := sb1) (J := Sl × Sl) (P := fun _ _ => True) (N := xs.length) (enc := iN)
    (st := fun t s => [.val (nll (told Sx Sy a b)), .val (nl xs), .val (nl ys), .val (iN t), s.1, s.2]) (nxt := fun t x => t ^^^ ovr (bx Sx Sy a b x) ys) xs 0 0 (.no, .no) (by omega) trivial fun i t s x hi hxm hP => by
      obtain ⟨s5, e, _⟩ := fold_loop (ga := tgN 5) (F := sb2) (J := Sl) (P := fun _ _ => True) (N := ys.length) (enc := iN)
        (st := fun t s => [.val (nll (told Sx Sy a b)), .val (nl xs), .val (nl ys), .val (iN t), .val (iN x), s]) (nxt := fun t y => t ^^^ bx Sx Sy a b x y) ys 0 t s.2 (by omega) trivial fun i t s y hi hym hP =>
          ⟨_, .val (iN y), rfl, sb2_turn hx hy (mx x hxm) (my y hym), trivial⟩
      rw [ovr_from] at e
      refine ⟨_, (.val (iN x), s5), rfl, ?_, trivial⟩
      unfold sb1
      simp only [Cn.runF_a, Cn.sSeq_a, Cn.sIf_a, Cn.sAsg_a, Cn.sOwn_a, Cn.sRet_a, Cn.sRetO_a, Cn.sNil_a, Cn.sRaise_a, Cn.sExpr_a, Cn.sFrz_a, Cn.sDrop_a, Cn.frz_a, Cn.sApp_a, Cn.sExt_a, Cn.sPut_a, Cn.sPutD_a, Cn.sFor_a, Cn.sWhile_a, Cn.eV_a, Cn.eO_a, Cn.eC_a, Cn.eOp_a, Cn.eUn_a, Cn.eAnd_a, Cn.eOr_a, Cn.eChain_a, Cn.eLst_a, Cn.eTup_a, Cn.eCall_a, Cn.eCallB_a, Cn.eSl_a, Cn.eComp_a, Cn.eYes_a, Cn.aNil_a, Cn.aCons_a, Cn.oNone_a, Cn.oSome_a, Cn.eDict1_a, Cn.iL_a, Cn.iT_a, Cn.iR1_a, Cn.iR2_a, Cn.iR3_a, Cn.tgN_a, Cn.bind_ok, Cn.bind_ex, Cn.rOut_ok, Cn.rOut_ex, List.map_cons, List.map_nil, List.length_cons, List.length_nil, List.cons_append, List.nil_append, List.replicate, List.set, List.getElem?_cons_zero, List.getElem?_cons_succ, Nat.reduceAdd, Nat.reduceSub, Cn.addD, Cn.subD, Cn.negD, Cn.notD, Cn.ltD, Cn.gtD, Cn.geD, Cn.leD, Cn.lenD, Cn.intD, Cn.listD, Cn.seqD, Cn.tupD, Cn.isi_ii, Cn.isi_ib, Cn.isi_bb, Cn.isi_ll, Cn.isi_tt, Cn.isi_ss, Cn.eqD_ii, Cn.neD_ii, Cn.eqD_ss, Cn.neD_ss, Cn.eqD_bb, Cn.neD_bb, decide_true, decide_false, Bool.not_true, Bool.not_false, seq_nl, e]
  rw [ovr_from, Nat.zero_xor] at h
  have h' : forL (tgN 4) sb1 (xs.map iN) [.val (nll (told Sx Sy a b)), .val (nl xs), .val (nl ys), .val (.int 0), .no, .no] = .nx [.val (nll (told Sx Sy a b)), .val (nl xs), .val (nl ys), .val (iN (ovr (fun x => ovr (bx Sx Sy a b x) ys) xs)), s.1, s.2] := h
  have hb : b__law_besides = (sSeq (sAsg 3 (eC (.int 0))) (sSeq (sFor (iL (eV 1)) (tgN 4) sb1) (sRet (eV 3)))) := by
    unfold b__law_besides sb1 sb2
    rfl
  unfold fn__law_besides
  rw [hb]
  simp only [Cn.runF_a, Cn.sSeq_a, Cn.sIf_a, Cn.sAsg_a, Cn.sOwn_a, Cn.sRet_a, Cn.sRetO_a, Cn.sNil_a, Cn.sRaise_a, Cn.sExpr_a, Cn.sFrz_a, Cn.sDrop_a, Cn.frz_a, Cn.sApp_a, Cn.sExt_a, Cn.sPut_a, Cn.sPutD_a, Cn.sFor_a, Cn.sWhile_a, Cn.eV_a, Cn.eO_a, Cn.eC_a, Cn.eOp_a, Cn.eUn_a, Cn.eAnd_a, Cn.eOr_a, Cn.eChain_a, Cn.eLst_a, Cn.eTup_a, Cn.eCall_a, Cn.eCallB_a, Cn.eSl_a, Cn.eComp_a, Cn.eYes_a, Cn.aNil_a, Cn.aCons_a, Cn.oNone_a, Cn.oSome_a, Cn.eDict1_a, Cn.iL_a, Cn.iT_a, Cn.iR1_a, Cn.iR2_a, Cn.iR3_a, Cn.tgN_a, Cn.bind_ok, Cn.bind_ex, Cn.rOut_ok, Cn.rOut_ex, List.map_cons, List.map_nil, List.length_cons, List.length_nil, List.cons_append, List.nil_append, List.replicate, List.set, List.getElem?_cons_zero, List.getElem?_cons_succ, Nat.reduceAdd, Nat.reduceSub, Cn.addD, Cn.subD, Cn.negD, Cn.notD, Cn.ltD, Cn.gtD, Cn.geD, Cn.leD, Cn.lenD, Cn.intD, Cn.listD, Cn.seqD, Cn.tupD, Cn.isi_ii, Cn.isi_ib, Cn.isi_bb, Cn.isi_ll, Cn.isi_tt, Cn.isi_ss, Cn.eqD_ii, Cn.neD_ii, Cn.eqD_ss, Cn.neD_ss, Cn.eqD_bb, Cn.neD_bb, decide_true, decide_false, Bool.not_true, Bool.not_false, seq_nl, h']
theorem ovr_nim_r {g : Nat → Nat} (a : Nat) : ∀ ys : List Nat, ovr (fun y => Nf.nim 4 a (g y)) ys = Nf.nim 4 a (ovr g ys)
  | [] => by rw [ovr_nil, ovr_nil, Nf.nim_comm, Nf.nim_zero]
  | y :: r => by rw [ovr_cons, ovr_cons, Nf.nim_add, ovr_nim_r a r]
theorem ovr_nim_l {g : Nat → Nat} (b : Nat) : ∀ xs : List Nat, ovr (fun x => Nf.nim 4 (g x) b) xs = Nf.nim 4 (ovr g xs) b
  | [] => by rw [ovr_nil, ovr_nil, Nf.nim_zero]
  | x :: r => by rw [ovr_cons, ovr_cons, nim_addl, ovr_nim_l b r]
/-- all of the turn's numbers, but the last one -/
theorem besides_sum {a b : Nat} {xs ys : List Nat} (hx : xs = xs.dropLast ++ [a]) (hy : ys = ys.dropLast ++ [b]) (mx : ∀ q ∈ xs.dropLast, q < a) (my : ∀ q ∈ ys.dropLast, q < b) :
    ovr (fun x => ovr (bx Sx Sy a b x) ys) xs = Nf.nim 4 (ovr (num1 Sx) xs) (ovr (num1 Sy) ys) ^^^ fxy Sx Sy a b := by
  have r1 : ∀ x, x ≠ a → ovr (bx Sx Sy a b x) ys = Nf.nim 4 (num1 Sx x) (ovr (num1 Sy) ys) := fun x hxa => by
    rw [← ovr_nim_r]
    exact ovr_congr fun y _ => if_pos (.inl hxa)
  have r2 : ovr (bx Sx Sy a b a) ys = Nf.nim 4 (num1 Sx a) (ovr (num1 Sy) ys) ^^^ fxy Sx Sy a b := by
    rw [hy, ovr_append, ovr_append, ovr_cons, ovr_nil, ovr_cons, ovr_nil, Nat.xor_zero, Nat.xor_zero, Nf.nim_add, ← ovr_nim_r]
    have e1 : bx Sx Sy a b a b = 0 := if_neg (by omega)
    have e2 : ovr (bx Sx Sy a b a) ys.dropLast = ovr (fun y => Nf.nim 4 (num1 Sx a) (num1 Sy y)) ys.dropLast := ovr_congr fun y hy' => if_pos (.inr (by have := my y hy'; omega))
    rw [e1, e2, Nat.xor_zero, Nat.xor_assoc]
    show _ = _ ^^^ (fxy Sx Sy a b ^^^ fxy Sx Sy a b)
    rw [Nat.xor_self, Nat.xor_zero]
  rw [hx, ovr_append, ovr_append, ovr_cons, ovr_nil, ovr_cons, ovr_nil, Nat.xor_zero, Nat.xor_zero, nim_addl, r2, ← ovr_nim_l]
  have e3 : ovr (fun x => ovr (bx Sx Sy a b x) ys) xs.dropLast = ovr (fun x => Nf.nim 4 (num1 Sx x) (ovr (num1 Sy) ys)) xs.dropLast := ovr_congr fun x hx' => r1 x (by have := mx x hx'; omega)
  rw [e3, Nat.xor_assoc]
/-- the numbers that turns lead to -/
def lead (Sx Sy : Nat → List (List Nat)) (a b : Nat) (xs ys : List Nat) : Nat := Nf.nim 4 (ovr (num1 Sx) xs) (ovr (num1 Sy) ys) ^^^ fxy Sx Sy a b
def leads (Sx Sy : Nat → List (List Nat)) (a b : Nat) : List Nat := (Sx a).flatMap fun xs => (Sy b).map (lead Sx Sy a b xs)
theorem lead_ok (X : Ok13 rx Sx) (Y : Ok13 ry Sy) {a b : Nat} (ha : a < 5) (hb : b < 5) {xs ys : List Nat} (hx : xs ∈ Sx a) (hy : ys ∈ Sy b) : fn__law_besides [nll (told Sx Sy a b), nl xs, nl ys] = .ok (iN (lead Sx Sy a b xs ys)) := by
  have h1 := X.k.shaped a ha xs hx
  have h2 := Y.k.shaped b hb ys hy
  rw [besides_ok h1.1 h2.1 (le_of_shaped (X.k.shaped a ha) hx) (le_of_shaped (Y.k.shaped b hb) hy), besides_sum h1.1 h2.1 h1.2 h2.2]
  rfl
theorem sum_low {r : D} {S : Nat → List (List Nat)} (X : Ok13 r S) {p : Nat} (hp : p < 5) {s : List Nat} (hs : s ∈ S p) : ovr (num1 S) s < 32 := @ovr_lt (num1 S) 5 s fun q hq => by
  have h1 := le_of_shaped (X.k.shaped p hp) hs q hq
  have := X.low q (by omega)
  omega
theorem mex_ok (X : Ok13 rx Sx) (Y : Ok13 ry Sy) {a b : Nat} (ha : a < 5) (hb : b < 5) : fxy Sx Sy a b = mexL (leads Sx Sy a b) := by
  refine mexL_uniq (fun v hv => ?_) fun z => ?_
  · obtain ⟨a', h1, b', h2, e⟩ := tart17 _ (X.low a ha) _ (Y.low b hb) v hv
    obtain ⟨xs, hx, e1⟩ := num1_reach (X.k.shaped a ha) h1
    obtain ⟨ys, hy, e2⟩ := num1_reach (Y.k.shaped b hb) h2
    refine List.mem_flatMap.mpr ⟨xs, hx, List.mem_map.mpr ⟨ys, hy, ?_⟩⟩
    unfold lead
    rw [e1, e2, e]
    unfold fxy
    rw [Nat.xor_comm, ← Nat.xor_assoc, Nat.xor_self, Nat.zero_xor]
  · obtain ⟨xs, hx, z⟩ := List.mem_flatMap.mp z
    obtain ⟨ys, hy, z⟩ := List.mem_map.mp z
    unfold lead at z
    have z0 : Nf.nim 4 (ovr (num1 Sx) xs) (ovr (num1 Sy) ys) = 0 := by
      have := congrArg (· ^^^ fxy Sx Sy a b) z
      simpa [Nat.xor_assoc] using this
    rcases nodiv (sum_low X ha hx) (sum_low Y hb hy) z0 with q | q
    · exact num1_off (X.k.shaped a ha) hx q
    · exact num1_off (Y.k.shaped b hb) hy q
def pd2 : SFn := (sPutD 10 (eCallB fn__law_besides (aCons (eO 5) (aCons (eV 11) (aCons (eV 12) aNil)))))
def pd1 : SFn := (sFor (iL (eCall fn__law_shapes (aCons (eV 2) (aCons (eV 4) aNil)))) (tgN 12) pd2)
theorem pd2_turn (X : Ok13 rx Sx) (Y : Ok13 ry Sy) {a b : Nat} (ha : a < 5) (hb : b < 5) {xs ys : List Nat} (hx : xs ∈ Sx a) (hy : ys ∈ Sy b) {ks : List Int} (hk : ks.length ≤ 100000) (s1 s2 s3 s4 s6 s7 s9 : Sl) :
    pd2 [.no, s1, s2, s3, s4, .own (nll (told Sx Sy a b)), s6, s7, .no, s9, .own (.dct ks), .val (nl xs), .val (nl ys), .no] =
      .nx [.no, s1, s2, s3, s4, .own (nll (told Sx Sy a b)), s6, s7, .no, s9, .own (.dct (addK ks ((lead Sx Sy a b xs ys : Nat) : Int))), .val (nl xs), .val (nl ys), .no] := by
  have hl := lead_ok X Y ha hb hx hy
  have hd : ([nll (told Sx Sy a b), nl xs, nl ys] : List D).all noDct = true := rfl
  have hf : flatR (.ok (iN (lead Sx Sy a b xs ys))) = .ok (iN (lead Sx Sy a b xs ys)) := rfl
  unfold pd2
  simp only [sPutD_a, eCallB_a, aCons_a, aNil_a, eO_a, eV_a, List.getElem?_cons_zero, List.getElem?_cons_succ, bind_ok, hd, if_true, hl, hf, rOut_ok, if_pos (lt_LIM (show ks.length < 1000000 by omega)), List.set]
theorem pd1_turn (X : Ok13 rx Sx) (Y : Ok13 ry Sy) {a b : Nat} (ha : a < 5) (hb : b < 5) {xs : List Nat} (hx : xs ∈ Sx a) {ks : List Int} (hk : ks.length ≤ 50000) (s1 s3 s6 s7 s9 s12 : Sl) :
    ∃ s12', pd1 [.no, s1, .val ry, s3, .val (iN b), .own (nll (told Sx Sy a b)), s6, s7, .no, s9, .own (.dct ks), .val (nl xs), s12, .no] =
      .nx [.no, s1, .val ry, s3, .val (iN b), .own (nll (told Sx Sy a b)), s6, s7, .no, s9, .own (.dct (dk ((Sy b).map (lead Sx Sy a b xs)) ks)), .val (nl xs), s12', .no] := by
  have few := Y.few b hb
  obtain ⟨s, h, _⟩ := fold_loop (ga := tgN 12) (F := pd2) (J := Sl) (P := fun i (ls : List Int) => ls.length ≤ 50000 + i) (N := 100) (enc := nl)
    (st := fun ls s => [.no, s1, .val ry, s3, .val (iN b), .own (nll (told Sx Sy a b)), s6, s7, .no, s9, .own (.dct ls), .val (nl xs), s, .no]) (nxt := fun ls ys => addK ls ((lead Sx Sy a b xs ys : Nat) : Int)) (Sy b) 0 ks s12 (by omega) (by omega) fun i ls s ys hi hy hP =>
      ⟨_, .val (nl ys), rfl, pd2_turn X Y ha hb hx hy (by omega) _ _ _ _ _ _ _, Nat.le_trans len_addK (by omega)⟩
  have hd : (Sy b).foldl (fun ls ys => addK ls ((lead Sx Sy a b xs ys : Nat) : Int)) ks = dk ((Sy b).map (lead Sx Sy a b xs)) ks := by
    unfold dk
    rw [List.foldl_map]
  rw [hd] at h
  refine ⟨s, ?_⟩
  unfold pd1
  simp only [Cn.runF_a, Cn.sSeq_a, Cn.sIf_a, Cn.sAsg_a, Cn.sOwn_a, Cn.sRet_a, Cn.sRetO_a, Cn.sNil_a, Cn.sRaise_a, Cn.sExpr_a, Cn.sFrz_a, Cn.sDrop_a, Cn.frz_a, Cn.sApp_a, Cn.sExt_a, Cn.sPut_a, Cn.sPutD_a, Cn.sFor_a, Cn.sWhile_a, Cn.eV_a, Cn.eO_a, Cn.eC_a, Cn.eOp_a, Cn.eUn_a, Cn.eAnd_a, Cn.eOr_a, Cn.eChain_a, Cn.eLst_a, Cn.eTup_a, Cn.eCall_a, Cn.eCallB_a, Cn.eSl_a, Cn.eComp_a, Cn.eYes_a, Cn.aNil_a, Cn.aCons_a, Cn.oNone_a, Cn.oSome_a, Cn.eDict1_a, Cn.iL_a, Cn.iT_a, Cn.iR1_a, Cn.iR2_a, Cn.iR3_a, Cn.tgN_a, Cn.bind_ok, Cn.bind_ex, Cn.rOut_ok, Cn.rOut_ex, List.map_cons, List.map_nil, List.length_cons, List.length_nil, List.cons_append, List.nil_append, List.replicate, List.set, List.getElem?_cons_zero, List.getElem?_cons_succ, Nat.reduceAdd, Nat.reduceSub, Cn.addD, Cn.subD, Cn.negD, Cn.notD, Cn.ltD, Cn.gtD, Cn.geD, Cn.leD, Cn.lenD, Cn.intD, Cn.listD, Cn.seqD, Cn.tupD, Cn.isi_ii, Cn.isi_ib, Cn.isi_bb, Cn.isi_ll, Cn.isi_tt, Cn.isi_ss, Cn.eqD_ii, Cn.neD_ii, Cn.eqD_ss, Cn.neD_ss, Cn.eqD_bb, Cn.neD_bb, decide_true, decide_false, Bool.not_true, Bool.not_false, Y.ls b hb, seq_nll, h]
theorem dk_len : ∀ (l : List Nat) (ks : List Int), (dk l ks).length ≤ ks.length + l.length
  | [], ks => Nat.le_refl _
  | a :: r, ks => by
    have h1 := dk_len r (addK ks (a : Int))
    have h2 := @len_addK ks (a : Int)
    rw [List.length_cons]
    show (dk r (addK ks (a : Int))).length ≤ _
    omega
theorem dk_flat (g : List Nat → List Nat) : ∀ (l : List (List Nat)) (ks : List Int), l.foldl (fun ks s => dk (g s) ks) ks = dk (l.flatMap g) ks
  | [], ks => rfl
  | s :: r, ks => by
    rw [List.foldl_cons, dk_flat g r, List.flatMap_cons]
    unfold dk
    rw [List.foldl_append]
theorem core (X : Ok13 rx Sx) (Y : Ok13 ry Sy) {a b : Nat} (ha : a < 5) (hb : b < 5) : b_law_2 [.no, .val rx, .val ry, .val (iN a), .val (iN b), .no, .no, .no, .no, .no, .no, .no, .no, .no] = .rt (.bl true) := by
  obtain ⟨s6, s7, s9, e⟩ := told_loop X Y ha hb (.val (iN a))
  have fx := X.few a ha
  have fy := Y.few b hb
  obtain ⟨s, h, _⟩ := fold_loop (ga := tgN 11) (F := pd1) (J := Sl × Sl) (P := fun i (ls : List Int) => ls.length ≤ 100 * i) (N := 100) (enc := nl)
    (st := fun ls s => [.no, .val rx, .val ry, .val (iN a), .val (iN b), .own (nll (told Sx Sy a b)), s6, s7, .no, s9, .own (.dct ls), s.1, s.2, .no]) (nxt := fun ls xs => dk ((Sy b).map (lead Sx Sy a b xs)) ls) (Sx a) 0 [] (.no, .no) (by omega) (Nat.le_refl _) fun i ls s xs hi hx hP => by
      obtain ⟨s12', q⟩ := pd1_turn X Y ha hb hx (ks := ls) (by omega) (.val rx) (.val (iN a)) s6 s7 s9 s.2
      exact ⟨_, (.val (nl xs), s12'), rfl, q, by have := dk_len ((Sy b).map (lead Sx Sy a b xs)) ls; rw [List.length_map] at this; omega⟩
  rw [dk_flat] at h
  have h' : forL (tgN 11) pd1 ((Sx a).map nl) [.no, .val rx, .val ry, .val (iN a), .val (iN b), .own (nll (told Sx Sy a b)), s6, s7, .no, s9, .own (.dct []), .no, .no, .no] =
      .nx [.no, .val rx, .val ry, .val (iN a), .val (iN b), .own (nll (told Sx Sy a b)), s6, s7, .no, s9, .own (.dct (dk (leads Sx Sy a b) [])), s.1, s.2, .no] := h
  have hm := mex_ok X Y ha hb
  have hlow : mexL (leads Sx Sy a b) < 100000 := by rw [← hm]; have := @fxy_lt Sx Sy a b; omega
  have W := whileF_mex (f := eOp inD (eV 13) (eO 10)) (F := sAsg 13 (eOp addD (eV 13) (eC (.int 1)))) (l := leads Sx Sy a b) (st := fun n => [.no, .val rx, .val ry, .val (iN a), .val (iN b), .own (nll (told Sx Sy a b)), s6, s7, .no, s9, .own (.dct (dk (leads Sx Sy a b) [])), s.1, s.2, .val (iN n)])
    (fun n => by
      have e : inD (iN n) (.dct (dk (leads Sx Sy a b) [])) = .ok (.bl (decide (n ∈ leads Sx Sy a b))) := by
        simp only [inD, inB]
        congr 2
        exact decide_eq_decide.mpr (by rw [mem_dk]; simp)
      simp only [Cn.runF_a, Cn.sSeq_a, Cn.sIf_a, Cn.sAsg_a, Cn.sOwn_a, Cn.sRet_a, Cn.sRetO_a, Cn.sNil_a, Cn.sRaise_a, Cn.sExpr_a, Cn.sFrz_a, Cn.sDrop_a, Cn.frz_a, Cn.sApp_a, Cn.sExt_a, Cn.sPut_a, Cn.sPutD_a, Cn.sFor_a, Cn.sWhile_a, Cn.eV_a, Cn.eO_a, Cn.eC_a, Cn.eOp_a, Cn.eUn_a, Cn.eAnd_a, Cn.eOr_a, Cn.eChain_a, Cn.eLst_a, Cn.eTup_a, Cn.eCall_a, Cn.eCallB_a, Cn.eSl_a, Cn.eComp_a, Cn.eYes_a, Cn.aNil_a, Cn.aCons_a, Cn.oNone_a, Cn.oSome_a, Cn.eDict1_a, Cn.iL_a, Cn.iT_a, Cn.iR1_a, Cn.iR2_a, Cn.iR3_a, Cn.tgN_a, Cn.bind_ok, Cn.bind_ex, Cn.rOut_ok, Cn.rOut_ex, List.map_cons, List.map_nil, List.length_cons, List.length_nil, List.cons_append, List.nil_append, List.replicate, List.set, List.getElem?_cons_zero, List.getElem?_cons_succ, Nat.reduceAdd, Nat.reduceSub, Cn.addD, Cn.subD, Cn.negD, Cn.notD, Cn.ltD, Cn.gtD, Cn.geD, Cn.leD, Cn.lenD, Cn.intD, Cn.listD, Cn.seqD, Cn.tupD, Cn.isi_ii, Cn.isi_ib, Cn.isi_bb, Cn.isi_ll, Cn.isi_tt, Cn.isi_ss, Cn.eqD_ii, Cn.neD_ii, Cn.eqD_ss, Cn.neD_ss, Cn.eqD_bb, Cn.neD_bb, decide_true, decide_false, Bool.not_true, Bool.not_false, e]) (fun n => by simp only [Cn.runF_a, Cn.sSeq_a, Cn.sIf_a, Cn.sAsg_a, Cn.sOwn_a, Cn.sRet_a, Cn.sRetO_a, Cn.sNil_a, Cn.sRaise_a, Cn.sExpr_a, Cn.sFrz_a, Cn.sDrop_a, Cn.frz_a, Cn.sApp_a, Cn.sExt_a, Cn.sPut_a, Cn.sPutD_a, Cn.sFor_a, Cn.sWhile_a, Cn.eV_a, Cn.eO_a, Cn.eC_a, Cn.eOp_a, Cn.eUn_a, Cn.eAnd_a, Cn.eOr_a, Cn.eChain_a, Cn.eLst_a, Cn.eTup_a, Cn.eCall_a, Cn.eCallB_a, Cn.eSl_a, Cn.eComp_a, Cn.eYes_a, Cn.aNil_a, Cn.aCons_a, Cn.oNone_a, Cn.oSome_a, Cn.eDict1_a, Cn.iL_a, Cn.iT_a, Cn.iR1_a, Cn.iR2_a, Cn.iR3_a, Cn.tgN_a, Cn.bind_ok, Cn.bind_ex, Cn.rOut_ok, Cn.rOut_ex, List.map_cons, List.map_nil, List.length_cons, List.length_nil, List.cons_append, List.nil_append, List.replicate, List.set, List.getElem?_cons_zero, List.getElem?_cons_succ, Nat.reduceAdd, Nat.reduceSub, Cn.addD, Cn.subD, Cn.negD, Cn.notD, Cn.ltD, Cn.gtD, Cn.geD, Cn.leD, Cn.lenD, Cn.intD, Cn.listD, Cn.seqD, Cn.tupD, Cn.isi_ii, Cn.isi_ib, Cn.isi_bb, Cn.isi_ll, Cn.isi_tt, Cn.isi_ss, Cn.eqD_ii, Cn.neD_ii, Cn.eqD_ss, Cn.neD_ss, Cn.eqD_bb, Cn.neD_bb, decide_true, decide_false, Bool.not_true, Bool.not_false]; rfl) 100000 0 (Nat.zero_le _) (by omega)
  have W' : whileF (eOp inD (eV 13) (eO 10)) (sAsg 13 (eOp addD (eV 13) (eC (.int 1)))) 100000 [.no, .val rx, .val ry, .val (iN a), .val (iN b), .own (nll (told Sx Sy a b)), s6, s7, .no, s9, .own (.dct (dk (leads Sx Sy a b) [])), s.1, s.2, .val (.int 0)] = .nx [.no, .val rx, .val ry, .val (iN a), .val (iN b), .own (nll (told Sx Sy a b)), s6, s7, .no, s9, .own (.dct (dk (leads Sx Sy a b) [])), s.1, s.2, .val (iN (mexL (leads Sx Sy a b)))] := W
  rw [← hm] at W'
  obtain ⟨t1, t2⟩ := @told_at Sx Sy a b a b (Nat.le_refl _) (Nat.le_refl _)
  have hr : rg1D (.int ((a : Int) + 1)) = .ok ((List.range (a + 1)).map iN) := by
    rw [rg1_ok (by omega), show (a : Int) + 1 = ((a + 1 : Nat) : Int) by omega]
    exact congrArg R.ok (rgL_nat (a + 1))
  have hbq : b_law_2 = (sSeq (sOwn 5 (eLst aNil))
    (sSeq (sFor (iR1 (eOp addD (eV 3) (eC (.int 1)))) (tgN 6) rn1)
    (sSeq (sOwn 10 (eC (.dct [])))
    (sSeq (sFor (iL (eCall fn__law_shapes (aCons (eV 1) (aCons (eV 3) aNil)))) (tgN 11) pd1)
    (sSeq (sAsg 13 (eC (.int 0)))
    (sSeq (sWhile 100000 (eOp inD (eV 13) (eO 10))
    (sAsg 13 (eOp addD (eV 13) (eC (.int 1)))))
    (sRet (eOp eqD (eOp ixD (eOp ixD (eO 5) (eV 3)) (eV 4)) (eV 13))))))))) := by
    unfold b_law_2 rn1 rn2 pd1 pd2
    rfl
  rw [hbq]
  simp only [Cn.runF_a, Cn.sSeq_a, Cn.sIf_a, Cn.sAsg_a, Cn.sOwn_a, Cn.sRet_a, Cn.sRetO_a, Cn.sNil_a, Cn.sRaise_a, Cn.sExpr_a, Cn.sFrz_a, Cn.sDrop_a, Cn.frz_a, Cn.sApp_a, Cn.sExt_a, Cn.sPut_a, Cn.sPutD_a, Cn.sFor_a, Cn.sWhile_a, Cn.eV_a, Cn.eO_a, Cn.eC_a, Cn.eOp_a, Cn.eUn_a, Cn.eAnd_a, Cn.eOr_a, Cn.eChain_a, Cn.eLst_a, Cn.eTup_a, Cn.eCall_a, Cn.eCallB_a, Cn.eSl_a, Cn.eComp_a, Cn.eYes_a, Cn.aNil_a, Cn.aCons_a, Cn.oNone_a, Cn.oSome_a, Cn.eDict1_a, Cn.iL_a, Cn.iT_a, Cn.iR1_a, Cn.iR2_a, Cn.iR3_a, Cn.tgN_a, Cn.bind_ok, Cn.bind_ex, Cn.rOut_ok, Cn.rOut_ex, List.map_cons, List.map_nil, List.length_cons, List.length_nil, List.cons_append, List.nil_append, List.replicate, List.set, List.getElem?_cons_zero, List.getElem?_cons_succ, Nat.reduceAdd, Nat.reduceSub, Cn.addD, Cn.subD, Cn.negD, Cn.notD, Cn.ltD, Cn.gtD, Cn.geD, Cn.leD, Cn.lenD, Cn.intD, Cn.listD, Cn.seqD, Cn.tupD, Cn.isi_ii, Cn.isi_ib, Cn.isi_bb, Cn.isi_ll, Cn.isi_tt, Cn.isi_ss, Cn.eqD_ii, Cn.neD_ii, Cn.eqD_ss, Cn.neD_ss, Cn.eqD_bb, Cn.neD_bb, decide_true, decide_false, Bool.not_true, Bool.not_false, hr, e, X.ls a ha, seq_nll, h', W', t1, t2]
end
def toL : D → List Nat
  | .lst xs => xs.map fun d => match d with
    | .int i => i.toNat
    | _ => 0
  | _ => []
/-- the shapes that the program tells -/
def sh (r : D) (p : Nat) : List (List Nat) := match fn_shapes [r, iN p] with
  | .ok (.lst ds) => ds.map toL
  | _ => []
def FactS (r : D) (p : Nat) : Prop := fn_shapes [r, iN p] = .ok (nll (sh r p)) ∧ fn__law_shapes [r, iN p] = .ok (nll (sh r p)) ∧
  (∀ s ∈ sh r p, s = s.dropLast ++ [p] ∧ ∀ q ∈ s.dropLast, q < p) ∧ (sh r p).length ≤ 100
instance (r : D) (p : Nat) : Decidable (FactS r p) := by unfold FactS; infer_instance
abbrev FactR (r : D) : Prop := fn_asked_rule [r] = .ok .non ∧ (∀ p : Nat, p < 5 → FactS r p) ∧ ∀ n ∈ nums (sh r) 5, n < 17
theorem ok13_of {r : D} (h : FactR r) (hd : noDct r = true) : Ok13 r (sh r) :=
  ⟨⟨h.1, hd, fun p hp => (h.2.1 p hp).1, fun p hp s hs => (h.2.1 p hp).2.2.1 s hs, fun p hp => Nat.le_trans (h.2.1 p hp).2.2.2 (by decide), by decide⟩,
   fun p hp => (h.2.1 p hp).2.1, fun p hp => (h.2.1 p hp).2.2.2, fun p hp => by
    have hl : p < (nums (sh r) 5).length := by rw [nums_len]; exact hp
    rw [← nums_get (sh r) hp, List.getD_eq_getElem?_getD, List.getElem?_eq_getElem hl]
    exact h.2.2 _ (List.getElem_mem hl)⟩
theorem n_run0 : FactR (rl "run" 0) := by decide +kernel
theorem n_run1 : FactR (rl "run" 1) := by decide +kernel
theorem n_run2 : FactR (rl "run" 2) := by decide +kernel
theorem n_run3 : FactR (rl "run" 3) := by decide +kernel
theorem n_run4 : FactR (rl "run" 4) := by decide +kernel
theorem n_run5 : FactR (rl "run" 5) := by decide +kernel
theorem n_most0 : FactR (rl "most" 0) := by decide +kernel
theorem n_most1 : FactR (rl "most" 1) := by decide +kernel
theorem n_most2 : FactR (rl "most" 2) := by decide +kernel
theorem n_just0 : FactR (rl "just" 0) := by decide +kernel
theorem n_just1 : FactR (rl "just" 1) := by decide +kernel
theorem n_just2 : FactR (rl "just" 2) := by decide +kernel
theorem some_rule (i : Int) : ∃ r S, fn__law_rule [.int i] = .ok r ∧ Ok13 r S := by
  obtain ⟨k, hk⟩ := rule_ok i
  rcases hk with ⟨h, e⟩ | ⟨h, e | e⟩
  · have hk : k = 0 ∨ k = 1 ∨ k = 2 ∨ k = 3 ∨ k = 4 ∨ k = 5 := by omega
    rcases hk with rfl | rfl | rfl | rfl | rfl | rfl
    · exact ⟨_, _, e, ok13_of n_run0 rfl⟩
    · exact ⟨_, _, e, ok13_of n_run1 rfl⟩
    · exact ⟨_, _, e, ok13_of n_run2 rfl⟩
    · exact ⟨_, _, e, ok13_of n_run3 rfl⟩
    · exact ⟨_, _, e, ok13_of n_run4 rfl⟩
    · exact ⟨_, _, e, ok13_of n_run5 rfl⟩
  · have hk : k = 0 ∨ k = 1 ∨ k = 2 := by omega
    rcases hk with rfl | rfl | rfl
    · exact ⟨_, _, e, ok13_of n_most0 rfl⟩
    · exact ⟨_, _, e, ok13_of n_most1 rfl⟩
    · exact ⟨_, _, e, ok13_of n_most2 rfl⟩
  · have hk : k = 0 ∨ k = 1 ∨ k = 2 := by omega
    rcases hk with rfl | rfl | rfl
    · exact ⟨_, _, e, ok13_of n_just0 rfl⟩
    · exact ⟨_, _, e, ok13_of n_just1 rfl⟩
    · exact ⟨_, _, e, ok13_of n_just2 rfl⟩
theorem law_true (ns : List Int) (hl : ns.length ≤ 63) : fn_law [.scr ns] = .ok (.bl true) := by
  obtain ⟨rx, Sx, ex, X⟩ := some_rule (cell ns 0)
  obtain ⟨ry, Sy, ey, Y⟩ := some_rule (cell ns 1)
  obtain ⟨a, ha, ha5⟩ : ∃ a : Nat, cell ns 2 % 5 = (a : Int) ∧ a < 5 := ⟨(cell ns 2 % 5).toNat, by omega, by omega⟩
  obtain ⟨b, hb, hb5⟩ : ∃ b : Nat, cell ns 3 % 5 = (b : Int) ∧ b < 5 := ⟨(cell ns 3 % 5).toNat, by omega, by omega⟩
  have h := core X Y ha5 hb5
  have m2 := @modD_pos (cell ns 2) 5 (by decide)
  have m3 := @modD_pos (cell ns 3) 5 (by decide)
  unfold fn_law b_law
  simp only [Cn.runF_a, Cn.sSeq_a, Cn.sIf_a, Cn.sAsg_a, Cn.sOwn_a, Cn.sRet_a, Cn.sRetO_a, Cn.sNil_a, Cn.sRaise_a, Cn.sExpr_a, Cn.sFrz_a, Cn.sDrop_a, Cn.frz_a, Cn.sApp_a, Cn.sExt_a, Cn.sPut_a, Cn.sPutD_a, Cn.sFor_a, Cn.sWhile_a, Cn.eV_a, Cn.eO_a, Cn.eC_a, Cn.eOp_a, Cn.eUn_a, Cn.eAnd_a, Cn.eOr_a, Cn.eChain_a, Cn.eLst_a, Cn.eTup_a, Cn.eCall_a, Cn.eCallB_a, Cn.eSl_a, Cn.eComp_a, Cn.eYes_a, Cn.aNil_a, Cn.aCons_a, Cn.oNone_a, Cn.oSome_a, Cn.eDict1_a, Cn.iL_a, Cn.iT_a, Cn.iR1_a, Cn.iR2_a, Cn.iR3_a, Cn.tgN_a, Cn.bind_ok, Cn.bind_ex, Cn.rOut_ok, Cn.rOut_ex, List.map_cons, List.map_nil, List.length_cons, List.length_nil, List.cons_append, List.nil_append, List.replicate, List.set, List.getElem?_cons_zero, List.getElem?_cons_succ, Nat.reduceAdd, Nat.reduceSub, Cn.addD, Cn.subD, Cn.negD, Cn.notD, Cn.ltD, Cn.gtD, Cn.geD, Cn.leD, Cn.lenD, Cn.intD, Cn.listD, Cn.seqD, Cn.tupD, Cn.isi_ii, Cn.isi_ib, Cn.isi_bb, Cn.isi_ll, Cn.isi_tt, Cn.isi_ss, Cn.eqD_ii, Cn.neD_ii, Cn.eqD_ss, Cn.neD_ss, Cn.eqD_bb, Cn.neD_bb, decide_true, decide_false, Bool.not_true, Bool.not_false, cell_at ns 0 0 rfl, cell_at ns 1 1 rfl, cell_at ns 2 2 rfl, cell_at ns 3 3 rfl, m2, m3, ha, hb, ex, ey, h]
end Coin

namespace Coin
open PySem PySem.Spec PyProof.Rows L2 Cn
theorem all_mk {l : PySem.W.OpenLaw} {w : World} {K : PySem.W.Frag} {h : Heap} {mg : Str → Option Value} {fa : Addr} (X : K.In h) (G : h.Ns mainGlobals mg) (hfa : mg "law" = some (.ref fa))
    {f_asked_number : Addr} {od_asked_number an_asked_number : Option Addr} {sl_asked_number : Array (Option Value)} {oc_asked_number kV_asked_number dc_asked_number pm_asked_number cd_asked_number ct_asked_number : Value}
    {f_product : Addr} {od_product an_product : Option Addr} {sl_product : Array (Option Value)} {oc_product kV_product dc_product pm_product cd_product ct_product : Value}
    {f_times : Addr} {od_times an_times : Option Addr} {sl_times : Array (Option Value)} {oc_times kV_times dc_times pm_times cd_times ct_times : Value}
    {f_asked_rule : Addr} {od_asked_rule an_asked_rule : Option Addr} {sl_asked_rule : Array (Option Value)} {oc_asked_rule kV_asked_rule dc_asked_rule pm_asked_rule cd_asked_rule ct_asked_rule : Value}
    {f_picks : Addr} {od_picks an_picks : Option Addr} {sl_picks : Array (Option Value)} {oc_picks kV_picks dc_picks pm_picks cd_picks ct_picks : Value}
    {f_shapes : Addr} {od_shapes an_shapes : Option Addr} {sl_shapes : Array (Option Value)} {oc_shapes kV_shapes dc_shapes pm_shapes cd_shapes ct_shapes : Value}
    {f_numbers : Addr} {od_numbers an_numbers : Option Addr} {sl_numbers : Array (Option Value)} {oc_numbers kV_numbers dc_numbers pm_numbers cd_numbers ct_numbers : Value}
    {f_board_number : Addr} {od_board_number an_board_number : Option Addr} {sl_board_number : Array (Option Value)} {oc_board_number kV_board_number dc_board_number pm_board_number cd_board_number ct_board_number : Value}
    {f__law_cell_at : Addr} {od__law_cell_at an__law_cell_at : Option Addr} {sl__law_cell_at : Array (Option Value)} {oc__law_cell_at kV__law_cell_at dc__law_cell_at pm__law_cell_at cd__law_cell_at ct__law_cell_at : Value}
    {f__law_number : Addr} {od__law_number an__law_number : Option Addr} {sl__law_number : Array (Option Value)} {oc__law_number kV__law_number dc__law_number pm__law_number cd__law_number ct__law_number : Value}
    {f__law_rule : Addr} {od__law_rule an__law_rule : Option Addr} {sl__law_rule : Array (Option Value)} {oc__law_rule kV__law_rule dc__law_rule pm__law_rule cd__law_rule ct__law_rule : Value}
    {f__law_shapes : Addr} {od__law_shapes an__law_shapes : Option Addr} {sl__law_shapes : Array (Option Value)} {oc__law_shapes kV__law_shapes dc__law_shapes pm__law_shapes cd__law_shapes ct__law_shapes : Value}
    {f__law_besides : Addr} {od__law_besides an__law_besides : Option Addr} {sl__law_besides : Array (Option Value)} {oc__law_besides kV__law_besides dc__law_besides pm__law_besides cd__law_besides ct__law_besides : Value}
    {f_law : Addr} {od_law an_law : Option Addr} {sl_law : Array (Option Value)} {oc_law kV_law dc_law pm_law cd_law ct_law : Value}
    {tc_MANY : Tok}
    {tc_PLACES : Tok}
    {tc_SIDE : Tok}
    {C_NoNumber : Addr}
    {C_NoRule : Addr}
    {C_NoBoard : Addr}
    {aL : Addr} {nL : Nat} {t1 t2 t3 t4 u1 u2 u3 u4 : Tok}
    (a_asked_number : PySem.W.nsIn K mainGlobals "asked_number" = some (some (.ref f_asked_number)))
    (l_asked_number : K.lookup f_asked_number = some ⟨oc_asked_number, od_asked_number, .func (PySem.W.fnOf "asked_number" "asked_number" (defArgs s_asked_number) (defBody s_asked_number) (defScope s_asked_number) .none kV_asked_number dc_asked_number pm_asked_number an_asked_number cd_asked_number ct_asked_number), sl_asked_number⟩)
    (c_asked_number : PySem.W.codeIn K cd_asked_number "asked_number" = true)
    (k_asked_number : PySem.W.keepIn K (.ref f_asked_number) = true)
    (a_product : PySem.W.nsIn K mainGlobals "product" = some (some (.ref f_product)))
    (l_product : K.lookup f_product = some ⟨oc_product, od_product, .func (PySem.W.fnOf "product" "product" (defArgs s_product) (defBody s_product) (defScope s_product) .none kV_product dc_product pm_product an_product cd_product ct_product), sl_product⟩)
    (c_product : PySem.W.codeIn K cd_product "product" = true)
    (k_product : PySem.W.keepIn K (.ref f_product) = true)
    (a_times : PySem.W.nsIn K mainGlobals "times" = some (some (.ref f_times)))
    (l_times : K.lookup f_times = some ⟨oc_times, od_times, .func (PySem.W.fnOf "times" "times" (defArgs s_times) (defBody s_times) (defScope s_times) .none kV_times dc_times pm_times an_times cd_times ct_times), sl_times⟩)
    (c_times : PySem.W.codeIn K cd_times "times" = true)
    (k_times : PySem.W.keepIn K (.ref f_times) = true)
    (a_asked_rule : PySem.W.nsIn K mainGlobals "asked_rule" = some (some (.ref f_asked_rule)))
    (l_asked_rule : K.lookup f_asked_rule = some ⟨oc_asked_rule, od_asked_rule, .func (PySem.W.fnOf "asked_rule" "asked_rule" (defArgs s_asked_rule) (defBody s_asked_rule) (defScope s_asked_rule) .none kV_asked_rule dc_asked_rule pm_asked_rule an_asked_rule cd_asked_rule ct_asked_rule), sl_asked_rule⟩)
    (c_asked_rule : PySem.W.codeIn K cd_asked_rule "asked_rule" = true)
    (k_asked_rule : PySem.W.keepIn K (.ref f_asked_rule) = true)
    (a_picks : PySem.W.nsIn K mainGlobals "picks" = some (some (.ref f_picks)))
    (l_picks : K.lookup f_picks = some ⟨oc_picks, od_picks, .func (PySem.W.fnOf "picks" "picks" (defArgs s_picks) (defBody s_picks) (defScope s_picks) .none kV_picks dc_picks pm_picks an_picks cd_picks ct_picks), sl_picks⟩)
    (c_picks : PySem.W.codeIn K cd_picks "picks" = true)
    (k_picks : PySem.W.keepIn K (.ref f_picks) = true)
    (a_shapes : PySem.W.nsIn K mainGlobals "shapes" = some (some (.ref f_shapes)))
    (l_shapes : K.lookup f_shapes = some ⟨oc_shapes, od_shapes, .func (PySem.W.fnOf "shapes" "shapes" (defArgs s_shapes) (defBody s_shapes) (defScope s_shapes) .none kV_shapes dc_shapes pm_shapes an_shapes cd_shapes ct_shapes), sl_shapes⟩)
    (c_shapes : PySem.W.codeIn K cd_shapes "shapes" = true)
    (k_shapes : PySem.W.keepIn K (.ref f_shapes) = true)
    (a_numbers : PySem.W.nsIn K mainGlobals "numbers" = some (some (.ref f_numbers)))
    (l_numbers : K.lookup f_numbers = some ⟨oc_numbers, od_numbers, .func (PySem.W.fnOf "numbers" "numbers" (defArgs s_numbers) (defBody s_numbers) (defScope s_numbers) .none kV_numbers dc_numbers pm_numbers an_numbers cd_numbers ct_numbers), sl_numbers⟩)
    (c_numbers : PySem.W.codeIn K cd_numbers "numbers" = true)
    (k_numbers : PySem.W.keepIn K (.ref f_numbers) = true)
    (a_board_number : PySem.W.nsIn K mainGlobals "board_number" = some (some (.ref f_board_number)))
    (l_board_number : K.lookup f_board_number = some ⟨oc_board_number, od_board_number, .func (PySem.W.fnOf "board_number" "board_number" (defArgs s_board_number) (defBody s_board_number) (defScope s_board_number) .none kV_board_number dc_board_number pm_board_number an_board_number cd_board_number ct_board_number), sl_board_number⟩)
    (c_board_number : PySem.W.codeIn K cd_board_number "board_number" = true)
    (k_board_number : PySem.W.keepIn K (.ref f_board_number) = true)
    (a__law_cell_at : PySem.W.nsIn K mainGlobals "_law_cell_at" = some (some (.ref f__law_cell_at)))
    (l__law_cell_at : K.lookup f__law_cell_at = some ⟨oc__law_cell_at, od__law_cell_at, .func (PySem.W.fnOf "_law_cell_at" "_law_cell_at" (defArgs s__law_cell_at) (defBody s__law_cell_at) (defScope s__law_cell_at) .none kV__law_cell_at dc__law_cell_at pm__law_cell_at an__law_cell_at cd__law_cell_at ct__law_cell_at), sl__law_cell_at⟩)
    (c__law_cell_at : PySem.W.codeIn K cd__law_cell_at "_law_cell_at" = true)
    (k__law_cell_at : PySem.W.keepIn K (.ref f__law_cell_at) = true)
    (a__law_number : PySem.W.nsIn K mainGlobals "_law_number" = some (some (.ref f__law_number)))
    (l__law_number : K.lookup f__law_number = some ⟨oc__law_number, od__law_number, .func (PySem.W.fnOf "_law_number" "_law_number" (defArgs s__law_number) (defBody s__law_number) (defScope s__law_number) .none kV__law_number dc__law_number pm__law_number an__law_number cd__law_number ct__law_number), sl__law_number⟩)
    (c__law_number : PySem.W.codeIn K cd__law_number "_law_number" = true)
    (k__law_number : PySem.W.keepIn K (.ref f__law_number) = true)
    (a__law_rule : PySem.W.nsIn K mainGlobals "_law_rule" = some (some (.ref f__law_rule)))
    (l__law_rule : K.lookup f__law_rule = some ⟨oc__law_rule, od__law_rule, .func (PySem.W.fnOf "_law_rule" "_law_rule" (defArgs s__law_rule) (defBody s__law_rule) (defScope s__law_rule) .none kV__law_rule dc__law_rule pm__law_rule an__law_rule cd__law_rule ct__law_rule), sl__law_rule⟩)
    (c__law_rule : PySem.W.codeIn K cd__law_rule "_law_rule" = true)
    (k__law_rule : PySem.W.keepIn K (.ref f__law_rule) = true)
    (a__law_shapes : PySem.W.nsIn K mainGlobals "_law_shapes" = some (some (.ref f__law_shapes)))
    (l__law_shapes : K.lookup f__law_shapes = some ⟨oc__law_shapes, od__law_shapes, .func (PySem.W.fnOf "_law_shapes" "_law_shapes" (defArgs s__law_shapes) (defBody s__law_shapes) (defScope s__law_shapes) .none kV__law_shapes dc__law_shapes pm__law_shapes an__law_shapes cd__law_shapes ct__law_shapes), sl__law_shapes⟩)
    (c__law_shapes : PySem.W.codeIn K cd__law_shapes "_law_shapes" = true)
    (k__law_shapes : PySem.W.keepIn K (.ref f__law_shapes) = true)
    (a__law_besides : PySem.W.nsIn K mainGlobals "_law_besides" = some (some (.ref f__law_besides)))
    (l__law_besides : K.lookup f__law_besides = some ⟨oc__law_besides, od__law_besides, .func (PySem.W.fnOf "_law_besides" "_law_besides" (defArgs s__law_besides) (defBody s__law_besides) (defScope s__law_besides) .none kV__law_besides dc__law_besides pm__law_besides an__law_besides cd__law_besides ct__law_besides), sl__law_besides⟩)
    (c__law_besides : PySem.W.codeIn K cd__law_besides "_law_besides" = true)
    (k__law_besides : PySem.W.keepIn K (.ref f__law_besides) = true)
    (a_law : PySem.W.nsIn K mainGlobals "law" = some (some (.ref f_law)))
    (l_law : K.lookup f_law = some ⟨oc_law, od_law, .func (PySem.W.fnOf "law" "law" (defArgs s_law) (defBody s_law) (defScope s_law) .none kV_law dc_law pm_law an_law cd_law ct_law), sl_law⟩)
    (c_law : PySem.W.codeIn K cd_law "law" = true)
    (k_law : PySem.W.keepIn K (.ref f_law) = true)
    (gc_MANY : PySem.W.nsIn K mainGlobals "MANY" = some (some (.int 65536 tc_MANY)))
    (gc_PLACES : PySem.W.nsIn K mainGlobals "PLACES" = some (some (.int 40 tc_PLACES)))
    (gc_SIDE : PySem.W.nsIn K mainGlobals "SIDE" = some (some (.int 16 tc_SIDE)))
    (zb_range : PySem.W.nsIn K mainGlobals "range" = some none)
    (zb_max : PySem.W.nsIn K mainGlobals "max" = some none)
    (zb_list : PySem.W.nsIn K mainGlobals "list" = some none)
    (zb_len : PySem.W.nsIn K mainGlobals "len" = some none)
    (zb_isinstance : PySem.W.nsIn K mainGlobals "isinstance" = some none)
    (zb_int : PySem.W.nsIn K mainGlobals "int" = some none)
    (zb_bool : PySem.W.nsIn K mainGlobals "bool" = some none)
    (xa_NoNumber : PySem.W.nsIn K mainGlobals "NoNumber" = some (some (.ref C_NoNumber)))
    (xe_NoNumber : PySem.W.excIn K C_NoNumber [.type "ValueError", .type "Exception", .type "BaseException", .type "object"] "ValueError.__new__" = true)
    (xk_NoNumber : PySem.W.keepIn K (.ref C_NoNumber) = true)
    (xs_NoNumber : PySem.W.subIn K (.ref C_NoNumber) (.type "BaseException") = some true)
    (xt_NoNumber : PySem.W.typeIn K (.ref C_NoNumber) = some (.type "type"))
    (xa_NoRule : PySem.W.nsIn K mainGlobals "NoRule" = some (some (.ref C_NoRule)))
    (xe_NoRule : PySem.W.excIn K C_NoRule [.type "ValueError", .type "Exception", .type "BaseException", .type "object"] "ValueError.__new__" = true)
    (xk_NoRule : PySem.W.keepIn K (.ref C_NoRule) = true)
    (xs_NoRule : PySem.W.subIn K (.ref C_NoRule) (.type "BaseException") = some true)
    (xt_NoRule : PySem.W.typeIn K (.ref C_NoRule) = some (.type "type"))
    (xa_NoBoard : PySem.W.nsIn K mainGlobals "NoBoard" = some (some (.ref C_NoBoard)))
    (xe_NoBoard : PySem.W.excIn K C_NoBoard [.type "ValueError", .type "Exception", .type "BaseException", .type "object"] "ValueError.__new__" = true)
    (xk_NoBoard : PySem.W.keepIn K (.ref C_NoBoard) = true)
    (xs_NoBoard : PySem.W.subIn K (.ref C_NoBoard) (.type "BaseException") = some true)
    (xt_NoBoard : PySem.W.typeIn K (.ref C_NoBoard) = some (.type "type"))
    (la : PySem.W.nsIn K mainGlobals "LOWER" = some (some (.ref aL)))
    (ll : K.lookup aL = some ⟨.type "dict", none, .dict (lowerEs t1 t2 t3 t4 u1 u2 u3 u4) nL, #[]⟩)
    : ∃ fd : FuncData, (∀ (s : Shared) (v : Value), BindsTo s fd ⟨[v], []⟩ [("script", v)]) ∧ ∀ base : Heap, K.In base → base.Ns mainGlobals mg → FnOk l.prog w K mg base (L2N.CX l.prog w) 9 fa fd ["script"] (spLaw K) := by
  have e := hfa.symm.trans (PySem.W.mg_of X G a_law)
  cases e
  have F_asked_number := fun_mk (st := s_asked_number) l_asked_number c_asked_number k_asked_number
  have F_product := fun_mk (st := s_product) l_product c_product k_product
  have F_times := fun_mk (st := s_times) l_times c_times k_times
  have F_asked_rule := fun_mk (st := s_asked_rule) l_asked_rule c_asked_rule k_asked_rule
  have F_picks := fun_mk (st := s_picks) l_picks c_picks k_picks
  have F_shapes := fun_mk (st := s_shapes) l_shapes c_shapes k_shapes
  have F_numbers := fun_mk (st := s_numbers) l_numbers c_numbers k_numbers
  have F_board_number := fun_mk (st := s_board_number) l_board_number c_board_number k_board_number
  have F__law_cell_at := fun_mk (st := s__law_cell_at) l__law_cell_at c__law_cell_at k__law_cell_at
  have F__law_number := fun_mk (st := s__law_number) l__law_number c__law_number k__law_number
  have F__law_rule := fun_mk (st := s__law_rule) l__law_rule c__law_rule k__law_rule
  have F__law_shapes := fun_mk (st := s__law_shapes) l__law_shapes c__law_shapes k__law_shapes
  have F__law_besides := fun_mk (st := s__law_besides) l__law_besides c__law_besides k__law_besides
  have F_law := fun_mk (st := s_law) l_law c_law k_law
  have B_asked_number := F_asked_number.binds (ps := ["number"]) fun _ _ _ _ _ _ us hl => match us, hl with | [_], _ => rfl
  have M_asked_number := PySem.W.mg_of X G a_asked_number
  have B_product := F_product.binds (ps := ["one", "two", "base"]) fun _ _ _ _ _ _ us hl => match us, hl with | [_, _, _], _ => rfl
  have M_product := PySem.W.mg_of X G a_product
  have B_times := F_times.binds (ps := ["one", "two"]) fun _ _ _ _ _ _ us hl => match us, hl with | [_, _], _ => rfl
  have M_times := PySem.W.mg_of X G a_times
  have B_asked_rule := F_asked_rule.binds (ps := ["rule"]) fun _ _ _ _ _ _ us hl => match us, hl with | [_], _ => rfl
  have M_asked_rule := PySem.W.mg_of X G a_asked_rule
  have B_picks := F_picks.binds (ps := ["count", "below"]) fun _ _ _ _ _ _ us hl => match us, hl with | [_, _], _ => rfl
  have M_picks := PySem.W.mg_of X G a_picks
  have B_shapes := F_shapes.binds (ps := ["rule", "last"]) fun _ _ _ _ _ _ us hl => match us, hl with | [_, _], _ => rfl
  have M_shapes := PySem.W.mg_of X G a_shapes
  have B_numbers := F_numbers.binds (ps := ["rule", "most"]) fun _ _ _ _ _ _ us hl => match us, hl with | [_, _], _ => rfl
  have M_numbers := PySem.W.mg_of X G a_numbers
  have B_board_number := F_board_number.binds (ps := ["rule_x", "rule_y", "x", "y"]) fun _ _ _ _ _ _ us hl => match us, hl with | [_, _, _, _], _ => rfl
  have M_board_number := PySem.W.mg_of X G a_board_number
  have B__law_cell_at := F__law_cell_at.binds (ps := ["script", "k"]) fun _ _ _ _ _ _ us hl => match us, hl with | [_, _], _ => rfl
  have M__law_cell_at := PySem.W.mg_of X G a__law_cell_at
  have B__law_number := F__law_number.binds (ps := ["found"]) fun _ _ _ _ _ _ us hl => match us, hl with | [_], _ => rfl
  have M__law_number := PySem.W.mg_of X G a__law_number
  have B__law_rule := F__law_rule.binds (ps := ["cell"]) fun _ _ _ _ _ _ us hl => match us, hl with | [_], _ => rfl
  have M__law_rule := PySem.W.mg_of X G a__law_rule
  have B__law_shapes := F__law_shapes.binds (ps := ["rule", "last"]) fun _ _ _ _ _ _ us hl => match us, hl with | [_, _], _ => rfl
  have M__law_shapes := PySem.W.mg_of X G a__law_shapes
  have B__law_besides := F__law_besides.binds (ps := ["told", "xs", "ys"]) fun _ _ _ _ _ _ us hl => match us, hl with | [_, _, _], _ => rfl
  have M__law_besides := PySem.W.mg_of X G a__law_besides
  have g_MANY : ∃ t, mg "MANY" = some (.int 65536 t) := ⟨_, PySem.W.mg_of X G gc_MANY⟩
  have g_PLACES : ∃ t, mg "PLACES" = some (.int 40 t) := ⟨_, PySem.W.mg_of X G gc_PLACES⟩
  have g_SIDE : ∃ t, mg "SIDE" = some (.int 16 t) := ⟨_, PySem.W.mg_of X G gc_SIDE⟩
  have m_range := PySem.W.mg_none_of X G zb_range
  have m_max := PySem.W.mg_none_of X G zb_max
  have m_list := PySem.W.mg_none_of X G zb_list
  have m_len := PySem.W.mg_none_of X G zb_len
  have m_isinstance := PySem.W.mg_none_of X G zb_isinstance
  have m_int := PySem.W.mg_none_of X G zb_int
  have m_bool := PySem.W.mg_none_of X G zb_bool
  have x_NoNumber : Xc K mg "NoNumber" := ⟨C_NoNumber, PySem.W.mg_of X G xa_NoNumber, xe_NoNumber, xk_NoNumber, xs_NoNumber, xt_NoNumber⟩
  have x_NoRule : Xc K mg "NoRule" := ⟨C_NoRule, PySem.W.mg_of X G xa_NoRule, xe_NoRule, xk_NoRule, xs_NoRule, xt_NoRule⟩
  have x_NoBoard : Xc K mg "NoBoard" := ⟨C_NoBoard, PySem.W.mg_of X G xa_NoBoard, xe_NoBoard, xk_NoBoard, xs_NoBoard, xt_NoBoard⟩
  have g_LOWER : LowerOk K mg := ⟨aL, nL, t1, t2, t3, t4, u1, u2, u3, u4, PySem.W.mg_of X G la, ll⟩
  refine ⟨PySem.W.fnOf "law" "law" (defArgs s_law) (defBody s_law) (defScope s_law) .none kV_law dc_law pm_law an_law cd_law ct_law, fun s v => .of_eq rfl, fun base _ _ => ?_⟩
  have z_asked_number : Fz l.prog w K mg base 1 "asked_number" 1 fn_asked_number := fz_of (ps := ["number"]) rfl M_asked_number k_asked_number B_asked_number (ok_asked_number (k := 0) F_asked_number g_MANY x_NoNumber)
  have z_product : ∀ m : Nat, Fz l.prog w K mg base (m + 0) "product" 3 (fn_product m) := fun m => by
    induction m with
    | zero => exact fz_stuck (ps := ["one", "two", "base"]) rfl M_product k_product B_product
    | succ m ih => exact fz_of (ps := ["one", "two", "base"]) rfl M_product k_product B_product (ok_product (k := m + 0) F_product ih g_LOWER)
  have z_product := z_product 6
  have z_times : Fz l.prog w K mg base 7 "times" 2 fn_times := fz_of (ps := ["one", "two"]) rfl M_times k_times B_times (ok_times (k := 6) F_times (z_asked_number.mono (by decide)) (z_product.mono (by decide)))
  have z_asked_rule : Fz l.prog w K mg base 1 "asked_rule" 1 fn_asked_rule := fz_of (ps := ["rule"]) rfl M_asked_rule k_asked_rule B_asked_rule (ok_asked_rule (k := 0) F_asked_rule g_PLACES x_NoRule)
  have z_picks : Fz l.prog w K mg base 1 "picks" 2 fn_picks := fz_of (ps := ["count", "below"]) rfl M_picks k_picks B_picks (ok_picks (k := 0) F_picks m_range)
  have z_shapes : Fz l.prog w K mg base 2 "shapes" 2 fn_shapes := fz_of (ps := ["rule", "last"]) rfl M_shapes k_shapes B_shapes (ok_shapes (k := 1) F_shapes (z_picks.mono (by decide)) m_range m_max m_list)
  have z_numbers : Fz l.prog w K mg base 3 "numbers" 2 fn_numbers := fz_of (ps := ["rule", "most"]) rfl M_numbers k_numbers B_numbers (ok_numbers (k := 2) F_numbers (z_shapes.mono (by decide)) m_range)
  have z_board_number : Fz l.prog w K mg base 8 "board_number" 4 fn_board_number := fz_of (ps := ["rule_x", "rule_y", "x", "y"]) rfl M_board_number k_board_number B_board_number (ok_board_number (k := 7) F_board_number (z_asked_rule.mono (by decide)) (z_times.mono (by decide)) (z_numbers.mono (by decide)) g_SIDE x_NoBoard)
  have z__law_cell_at : Fz l.prog w K mg base 1 "_law_cell_at" 2 fn__law_cell_at := fz_of (ps := ["script", "k"]) rfl M__law_cell_at k__law_cell_at B__law_cell_at (ok__law_cell_at (k := 0) F__law_cell_at m_len)
  have z__law_number : Fz l.prog w K mg base 1 "_law_number" 1 fn__law_number := fz_of (ps := ["found"]) rfl M__law_number k__law_number B__law_number (ok__law_number (k := 0) F__law_number m_isinstance m_int m_bool)
  have z__law_rule : Fz l.prog w K mg base 1 "_law_rule" 1 fn__law_rule := fz_of (ps := ["cell"]) rfl M__law_rule k__law_rule B__law_rule (ok__law_rule (k := 0) F__law_rule )
  have z__law_shapes : Fz l.prog w K mg base 1 "_law_shapes" 2 fn__law_shapes := fz_of (ps := ["rule", "last"]) rfl M__law_shapes k__law_shapes B__law_shapes (ok__law_shapes (k := 0) F__law_shapes m_range)
  have z__law_besides : Fz l.prog w K mg base 1 "_law_besides" 3 fn__law_besides := fz_of (ps := ["told", "xs", "ys"]) rfl M__law_besides k__law_besides B__law_besides (ok__law_besides (k := 0) F__law_besides )
  exact law_of (ok_law (k := 8) F_law (z__law_rule.mono (by decide)) (z__law_cell_at.mono (by decide)) (z_board_number.mono (by decide)) (z__law_number.mono (by decide)) (z__law_shapes.mono (by decide)) (z__law_besides.mono (by decide)) m_range) law_true
end Coin
open PySem PySem.W PyProof.Rows
set_option maxRecDepth 100000 in
set_option maxHeartbeats 0 in
theorem PySem.Challenge.cw_coinrows_k13_whole_least_on_boards_holds : PySem.Challenge.rw_coinrows_k13_whole_least_on_boards.Holds := by
  w_on; o_law; k_head; (case hw => w_witness2)
  k_fill
  refine L2.walk_of (l := PySem.Challenge.rw_coinrows_k13_whole_least_on_boards) (n := 63) (k := 9) (x := "script") (CX := fun w => L2N.CX PySem.Challenge.rw_coinrows_k13_whole_least_on_boards.prog w) (sp := fun w => Cn.spLaw _) rfl (by decide) rfl ⟨rfl, by decide, by decide⟩ (fun w h Y => PySem.W.kIn_of Y) ?F (fun _ _ a ns hl _ hS => ⟨a, ns, rfl, hS, hl, fun _ => rfl⟩) (fun _ _ _ _ _ h => Cn.cx_end h)
  case F =>
    intro w mg fa h KX G hmg
    refine' Coin.all_mk KX G hmg ?a_asked_number ?l_asked_number ?c_asked_number ?k_asked_number ?a_product ?l_product ?c_product ?k_product ?a_times ?l_times ?c_times ?k_times ?a_asked_rule ?l_asked_rule ?c_asked_rule ?k_asked_rule ?a_picks ?l_picks ?c_picks ?k_picks ?a_shapes ?l_shapes ?c_shapes ?k_shapes ?a_numbers ?l_numbers ?c_numbers ?k_numbers ?a_board_number ?l_board_number ?c_board_number ?k_board_number ?a__law_cell_at ?l__law_cell_at ?c__law_cell_at ?k__law_cell_at ?a__law_number ?l__law_number ?c__law_number ?k__law_number ?a__law_rule ?l__law_rule ?c__law_rule ?k__law_rule ?a__law_shapes ?l__law_shapes ?c__law_shapes ?k__law_shapes ?a__law_besides ?l__law_besides ?c__law_besides ?k__law_besides ?a_law ?l_law ?c_law ?k_law ?gc_MANY ?gc_PLACES ?gc_SIDE ?zb_range ?zb_max ?zb_list ?zb_len ?zb_isinstance ?zb_int ?zb_bool ?xa_NoNumber ?xe_NoNumber ?xk_NoNumber ?xs_NoNumber ?xt_NoNumber ?xa_NoRule ?xe_NoRule ?xk_NoRule ?xs_NoRule ?xt_NoRule ?xa_NoBoard ?xe_NoBoard ?xk_NoBoard ?xs_NoBoard ?xt_NoBoard ?la ?ll
    (case a_asked_number => k_is)
    (case l_asked_number => k_is)
    (case c_asked_number => k_is)
    (case k_asked_number => k_is)
    (case a_product => k_is)
    (case l_product => k_is)
    (case c_product => k_is)
    (case k_product => k_is)
    (case a_times => k_is)
    (case l_times => k_is)
    (case c_times => k_is)
    (case k_times => k_is)
    (case a_asked_rule => k_is)
    (case l_asked_rule => k_is)
    (case c_asked_rule => k_is)
    (case k_asked_rule => k_is)
    (case a_picks => k_is)
    (case l_picks => k_is)
    (case c_picks => k_is)
    (case k_picks => k_is)
    (case a_shapes => k_is)
    (case l_shapes => k_is)
    (case c_shapes => k_is)
    (case k_shapes => k_is)
    (case a_numbers => k_is)
    (case l_numbers => k_is)
    (case c_numbers => k_is)
    (case k_numbers => k_is)
    (case a_board_number => k_is)
    (case l_board_number => k_is)
    (case c_board_number => k_is)
    (case k_board_number => k_is)
    (case a__law_cell_at => k_is)
    (case l__law_cell_at => k_is)
    (case c__law_cell_at => k_is)
    (case k__law_cell_at => k_is)
    (case a__law_number => k_is)
    (case l__law_number => k_is)
    (case c__law_number => k_is)
    (case k__law_number => k_is)
    (case a__law_rule => k_is)
    (case l__law_rule => k_is)
    (case c__law_rule => k_is)
    (case k__law_rule => k_is)
    (case a__law_shapes => k_is)
    (case l__law_shapes => k_is)
    (case c__law_shapes => k_is)
    (case k__law_shapes => k_is)
    (case a__law_besides => k_is)
    (case l__law_besides => k_is)
    (case c__law_besides => k_is)
    (case k__law_besides => k_is)
    (case a_law => k_is)
    (case l_law => k_is)
    (case c_law => k_is)
    (case k_law => k_is)
    (case gc_MANY => k_is)
    (case gc_PLACES => k_is)
    (case gc_SIDE => k_is)
    (case zb_range => k_is)
    (case zb_max => k_is)
    (case zb_list => k_is)
    (case zb_len => k_is)
    (case zb_isinstance => k_is)
    (case zb_int => k_is)
    (case zb_bool => k_is)
    (case xa_NoNumber => k_is)
    (case xe_NoNumber => k_exc)
    (case xk_NoNumber => k_is)
    (case xs_NoNumber => k_is)
    (case xt_NoNumber => k_is)
    (case xa_NoRule => k_is)
    (case xe_NoRule => k_exc)
    (case xk_NoRule => k_is)
    (case xs_NoRule => k_is)
    (case xt_NoRule => k_is)
    (case xa_NoBoard => k_is)
    (case xe_NoBoard => k_exc)
    (case xk_NoBoard => k_is)
    (case xs_NoBoard => k_is)
    (case xt_NoBoard => k_is)
    (case la => k_is)
    (case ll => k_is)
#print axioms PySem.Challenge.cw_coinrows_k13_whole_least_on_boards_holds
