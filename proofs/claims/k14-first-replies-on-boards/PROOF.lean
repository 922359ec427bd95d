import PyProof.Rows.All
import Wide.All
import OpenK.AllK
import Wide.FinOn
import HandS.ForMost
import HandS.ForExc
import HandS.ExcCtx
import HandS.Deep
import HandS.SortRule
import HandS.TupLe
import HandS.IsInst
import HandS.Conv
import HandS.Sort
import HandS.More
import HandS.Iter
import KE.KDictSum
import KE.KDictList
import PySem.Challenge.RW_coinrows_k14_first_replies_on_boards
set_option Elab.async false
set_option linter.all false
set_option maxRecDepth 100000
set_option maxHeartbeats 4000000
namespace Cn
open PySem PySem.Spec PyProof.Rows L2

/-! ### pure data, results -/
inductive D where
  | non | bl (b : Bool) | int (i : Int) | str (s : Str)
  | lst (xs : List D) | tup (xs : List D) | scr (ns : List Int) | dct (ks : List Int) | dctT (ks : List (List Int)) | err (a : Addr)
  /-- a tuple of two lists, each its own -/
  | two (xs ys : List Int)

inductive R (α : Type) where
  | ok (a : α) | ex (c : Str) | stuck

def R.bind {α β : Type} : R α → (α → R β) → R β
  | .ok a, f => f a
  | .ex c, _ => .ex c
  | .stuck, _ => .stuck

def kT : HO → Prop := fun _ => True

mutual
inductive Rp (K : PySem.W.Frag) (G : Hp) : V → D → Prop
  | non : Rp K G .non .non
  | bl (b : Bool) : Rp K G (.bl b) (.bl b)
  | int (i : Int) : Rp K G (.int i) (.int i)
  | str (x : Str) : Rp K G (.str x) (.str x)
  | lst {a : Addr} {xs : List V} {ds : List D} : G a = some (.lst xs) → RpAll K G xs ds → Rp K G (.ref a) (.lst ds)
  | tup {a : Addr} {xs : List V} {ds : List D} : G a = some (.tup xs) → RpAll K G xs ds → Rp K G (.ref a) (.tup ds)
  | scr {a : Addr} {ns : List Int} : SqL K G a (ns.map V.int) → Rp K G (.ref a) (.scr ns)
  | dct {a : Addr} {ks : List Int} : G a = some (.dK (ks.map fun k => ((Sum.inl k : Key), V.bl true))) → Rp K G (.ref a) (.dct ks)
  | dctT {a : Addr} {ks : List (List Int)} : G a = some (.dT (ks.map fun t => (t.map (fun k => (Sum.inl k : Key)), V.bl true))) → Rp K G (.ref a) (.dctT ks)
  | err (a : Addr) : Rp K G (.ref a) (.err a)
  | two {t a b : Addr} {xs ys : List Int} : G t = some (.tup [.ref a, .ref b]) → G a = some (.lst (xs.map V.int)) → G b = some (.lst (ys.map V.int)) → a ≠ b → Rp K G (.ref t) (.two xs ys)
inductive RpAll (K : PySem.W.Frag) (G : Hp) : List V → List D → Prop
  | nil : RpAll K G [] []
  | cons {v : V} {vs : List V} {d : D} {ds : List D} : Rp K G v d → RpAll K G vs ds → RpAll K G (v :: vs) (d :: ds)
end

theorem rd_same {H H' : Hp} {a : Addr} {u : HO} (e : Same H H') (h : Rd H a u) : Rd H' a u := by
  rcases h with h | ⟨o, h⟩
  · exact .inl (e _ _ h)
  · exact .inr ⟨o, e _ _ h⟩

section
variable {K : PySem.W.Frag} {G G' H H' : Hp}
mutual
theorem Rp.mono (e : Same G G') : ∀ {v : V} {d : D}, Rp K G v d → Rp K G' v d
  | _, _, .non => .non
  | _, _, .bl b => .bl b
  | _, _, .int b => .int b
  | _, _, .str b => .str b
  | _, _, .lst h r => .lst (e _ _ h) (RpAll.mono e r)
  | _, _, .tup h r => .tup (e _ _ h) (RpAll.mono e r)
  | _, _, .scr h => .scr (e.seq h)
  | _, _, .dct h => .dct (e _ _ h)
  | _, _, .dctT h => .dctT (e _ _ h)
  | _, _, .err a => .err a
  | _, _, .two h1 h2 h3 h4 => .two (e _ _ h1) (e _ _ h2) (e _ _ h3) h4
theorem RpAll.mono (e : Same G G') : ∀ {vs : List V} {ds : List D}, RpAll K G vs ds → RpAll K G' vs ds
  | _, _, .nil => .nil
  | _, _, .cons h r => .cons (Rp.mono e h) (RpAll.mono e r)
end

theorem RpAll.length : ∀ {vs : List V} {ds : List D}, RpAll K G vs ds → vs.length = ds.length
  | _, _, .nil => rfl
  | _, _, .cons _ r => by rw [List.length_cons, List.length_cons, RpAll.length r]
theorem RpAll.get : ∀ {vs : List V} {ds : List D} {i : Nat} {d : D}, RpAll K G vs ds → ds[i]? = some d → ∃ v, vs[i]? = some v ∧ Rp K G v d
  | _, _, _, _, .nil, e => by simp at e
  | _, _, 0, _, .cons h _, e => by simp at e; subst e; exact ⟨_, rfl, h⟩
  | _, _, i + 1, d, .cons _ r, e => by
    obtain ⟨v, h1, h2⟩ := RpAll.get (i := i) (d := d) r (by simpa using e)
    exact ⟨v, by simpa using h1, h2⟩
theorem RpAll.get' : ∀ {vs : List V} {ds : List D} {i : Nat} {v : V}, RpAll K G vs ds → vs[i]? = some v → ∃ d, ds[i]? = some d ∧ Rp K G v d
  | _, _, _, _, .nil, e => by simp at e
  | _, _, 0, _, .cons h _, e => by simp at e; subst e; exact ⟨_, rfl, h⟩
  | _, _, i + 1, d, .cons _ r, e => by
    obtain ⟨v, h1, h2⟩ := RpAll.get' (i := i) (v := d) r (by simpa using e)
    exact ⟨v, by simpa using h1, h2⟩
theorem RpAll.append : ∀ {vs ws : List V} {ds es : List D}, RpAll K G vs ds → RpAll K G ws es → RpAll K G (vs ++ ws) (ds ++ es)
  | _, _, _, _, .nil, s => s
  | _, _, _, _, .cons h r, s => .cons h (RpAll.append r s)
theorem RpAll.take : ∀ {vs : List V} {ds : List D} (n : Nat), RpAll K G vs ds → RpAll K G (vs.take n) (ds.take n)
  | _, _, 0, _ => .nil
  | _, _, _ + 1, .nil => .nil
  | _, _, n + 1, .cons h r => .cons h (RpAll.take n r)
theorem RpAll.drop : ∀ {vs : List V} {ds : List D} (n : Nat), RpAll K G vs ds → RpAll K G (vs.drop n) (ds.drop n)
  | _, _, 0, r => r
  | _, _, _ + 1, .nil => .nil
  | _, _, n + 1, .cons _ r => RpAll.drop n r
theorem RpAll.set {v : V} {d : D} (h : Rp K G v d) : ∀ {vs : List V} {ds : List D} (i : Nat), RpAll K G vs ds → RpAll K G (vs.set i v) (ds.set i d)
  | _, _, _, .nil => .nil
  | _, _, 0, .cons _ r => .cons h r
  | _, _, i + 1, .cons q r => .cons q (RpAll.set h i r)
theorem RpAll.ints {vs : List V} {ns : List Int} (r : RpAll K G vs (ns.map D.int)) : vs = ns.map V.int := by
  induction ns generalizing vs with
  | nil => cases r; rfl
  | cons n ns ih =>
    cases r with
    | cons h r =>
      cases h
      rw [ih r]; rfl
theorem rp_ints (ns : List Int) : RpAll K G (ns.map V.int) (ns.map D.int) := by
  induction ns with
  | nil => exact .nil
  | cons n ns ih => exact .cons (.int n) ih

/-- the state has grown: the clean part G within H -/
structure Ext (G H G' H' : Hp) : Prop where
  sub : Same G' H'
  hh : Same H H'
  gg : ∀ a, (∀ xs, H a ≠ some (.tup xs)) → H a ≠ none → G' a = G a
  sm : Same G G'

theorem Ext.refl (h : Same G H) : Ext G H G H := ⟨h, Same.refl H, fun _ _ _ => rfl, Same.refl G⟩
theorem Ext.trans {G1 H1 G2 H2 : Hp} (a : Ext G H G1 H1) (b : Ext G1 H1 G2 H2) : Ext G H G2 H2 :=
  ⟨b.sub, a.hh.trans b.hh, fun x hn hx => by
    have h1 : H1 x = H x := by
      cases q : H x with
      | none => exact (hx q).elim
      | some o => exact a.hh x o q
    rw [b.gg x (by rw [h1]; exact hn) (by rw [h1]; exact hx), a.gg x hn hx], a.sm.trans b.sm⟩
theorem Ext.same (e : Ext G H G' H') (s : Same G H) : Same G G' := e.sm
theorem Ext.out (e : Ext G H G' H') {p : Addr} {o : HO} (h : H p = some o) (hn : ∀ xs, o ≠ .tup xs) (g : G p = none) : G' p = none := by
  rw [e.gg p (fun xs z => by rw [h] at z; exact hn xs (Option.some.inj z)) (by rw [h]; simp)]; exact g
theorem upd_none {p a : Addr} {o : HO} (h : a ≠ p) (q : H a = none) : upd H p o a = none := by rw [upd_ne h]; exact q
theorem Same.upd {p : Addr} {o : HO} (h : H p = none) : Same H (upd H p o) := fun b u q => by rw [upd_ne (ne_of_none q h)]; exact q
/-- a new clean object -/
theorem Ext.new {p : Addr} {o : HO} (s : Same G H) (h : H p = none) : Ext G H (upd G p o) (upd H p o) :=
  ⟨fun a u q => by
    by_cases e : a = p
    · subst e; rw [upd_same] at q ⊢; exact q
    · rw [upd_ne e] at q ⊢; exact s a u q,
   Same.upd h, fun a _ ha => by rw [upd_ne (fun e => ha (by rw [e]; exact h))], Same.upd (s.free h)⟩
theorem Same.free' (e : Same G H) {p : Addr} (h : H p = none) : G p = none := e.free h
/-- a new object that is not clean -/
theorem Ext.newOwn {p : Addr} {o : HO} (s : Same G H) (h : H p = none) : Ext G H G (upd H p o) :=
  ⟨s.trans (Same.upd h), Same.upd h, fun _ _ _ => rfl, Same.refl G⟩

/-- what an own object holds -/
def OwnR (K : PySem.W.Frag) (G : Hp) (o : HO) : D → Prop
  | .lst ds => ∃ xs, o = .lst xs ∧ RpAll K G xs ds
  | .dct ks => o = .dK (ks.map fun k => ((Sum.inl k : Key), V.bl true))
  | .dctT ks => o = .dT (ks.map fun t => (t.map (fun k => (Sum.inl k : Key)), V.bl true))
  | _ => False
theorem OwnR.mono {o : HO} (e : Same G G') : ∀ {d : D}, OwnR K G o d → OwnR K G' o d
  | .lst _, ⟨xs, h, r⟩ => ⟨xs, h, r.mono e⟩
  | .dct _, h => h
  | .dctT _, h => h
theorem OwnR.rp {o : HO} {p : Addr} : ∀ {d : D}, OwnR K G o d → G p = some o → Rp K G (.ref p) d
  | .lst _, ⟨xs, h, r⟩, e => .lst (by rw [e, h]) r
  | .dct _, h, e => .dct (by rw [e]; exact congrArg some h)
  | .dctT _, h, e => .dctT (by rw [e]; exact congrArg some h)

theorem OwnR.nt {o : HO} : ∀ {d : D}, OwnR K G o d → ∀ xs, o ≠ .tup xs
  | .lst _, ⟨_, h, _⟩, _, z => by rw [h] at z; cases z
  | .dct _, h, _, z => by
    have h : o = .dK _ := h
    rw [h] at z; cases z
  | .dctT _, h, _, z => by
    have h : o = .dT _ := h
    rw [h] at z; cases z
/-- a value that may be one's own object, for the while -/
def Bp (K : PySem.W.Frag) (G H : Hp) (v : V) (d : D) : Prop := Rp K G v d ∨ ∃ p o, v = .ref p ∧ G p = none ∧ H p = some o ∧ OwnR K G o d
theorem Bp.ext {v : V} {d : D} (s : Same G H) (e : Ext G H G' H') : Bp K G H v d → Bp K G' H' v d
  | .inl h => .inl (h.mono (e.same s))
  | .inr ⟨p, o, h1, h2, h3, h4⟩ => .inr ⟨p, o, h1, e.out h3 h4.nt h2, e.hh _ _ h3, h4.mono (e.same s)⟩
theorem Bp.full {v : V} {d : D} (s : Same G H) : Bp K G H v d → Rp K H v d
  | .inl h => h.mono s
  | .inr ⟨p, o, h1, h2, h3, h4⟩ => by rw [h1]; exact (h4.mono s).rp h3
theorem Bp.int {v : V} {i : Int} : Bp K G H v (.int i) → v = .int i
  | .inl h => by cases h; rfl
  | .inr ⟨_, _, _, _, _, h⟩ => h.elim
theorem Bp.bl {v : V} {i : Bool} : Bp K G H v (.bl i) → v = .bl i
  | .inl h => by cases h; rfl
  | .inr ⟨_, _, _, _, _, h⟩ => h.elim
theorem Bp.str {v : V} {i : Str} : Bp K G H v (.str i) → v = .str i
  | .inl h => by cases h; rfl
  | .inr ⟨_, _, _, _, _, h⟩ => h.elim
theorem Bp.non {v : V} : Bp K G H v .non → v = .non
  | .inl h => by cases h; rfl
  | .inr ⟨_, _, _, _, _, h⟩ => h.elim
theorem Bp.lst {v : V} {ds : List D} (s : Same G H) : Bp K G H v (.lst ds) → ∃ a xs, v = .ref a ∧ H a = some (.lst xs) ∧ RpAll K G xs ds
  | .inl h => by cases h with | lst h r => exact ⟨_, _, rfl, s _ _ h, r⟩
  | .inr ⟨p, o, h1, _, h3, xs, h4, h5⟩ => ⟨p, xs, h1, by rw [h3, h4], h5⟩
theorem Bp.tup {v : V} {ds : List D} : Bp K G H v (.tup ds) → ∃ a xs, v = .ref a ∧ G a = some (.tup xs) ∧ RpAll K G xs ds
  | .inl h => by cases h with | tup h r => exact ⟨_, _, rfl, h, r⟩
  | .inr ⟨_, _, _, _, _, h⟩ => h.elim
theorem Bp.scr {v : V} {ns : List Int} : Bp K G H v (.scr ns) → ∃ a, v = .ref a ∧ SqL K G a (ns.map V.int)
  | .inl h => by cases h with | scr h => exact ⟨_, rfl, h⟩
  | .inr ⟨_, _, _, _, _, h⟩ => h.elim
theorem Bp.dct {v : V} {ks : List Int} (s : Same G H) : Bp K G H v (.dct ks) → ∃ a, v = .ref a ∧ H a = some (.dK (ks.map fun k => ((Sum.inl k : Key), V.bl true)))
  | .inl h => by cases h with | dct h => exact ⟨_, rfl, s _ _ h⟩
  | .inr ⟨p, o, h1, _, h3, h4⟩ => ⟨p, h1, by rw [h3]; exact congrArg some h4⟩
theorem Bp.dctT {v : V} {ks : List (List Int)} (s : Same G H) : Bp K G H v (.dctT ks) → ∃ a, v = .ref a ∧ H a = some (.dT (ks.map fun t => (t.map (fun k => (Sum.inl k : Key)), V.bl true)))
  | .inl h => by cases h with | dctT h => exact ⟨_, rfl, s _ _ h⟩
  | .inr ⟨p, o, h1, _, h3, h4⟩ => ⟨p, h1, by rw [h3]; exact congrArg some h4⟩
end

/-! ### slots -/
inductive Sl where
  | no | val (d : D) | own (d : D)
abbrev En := List Sl

structure Rep (K : PySem.W.Frag) (G0 H0 : Hp) (env : En) (σ : L2.St) (G H : Hp) : Prop where
  len : σ.length = env.length
  ext : Ext G0 H0 G H
  val : ∀ (i : Nat) (d : D), env[i]? = some (.val d) → ∃ v, σ[i]? = some (some v) ∧ Rp K G v d
  own : ∀ (i : Nat) (d : D), env[i]? = some (.own d) → ∃ (p : Addr) (o : HO), σ[i]? = some (some (.ref p)) ∧ H p = some o ∧ G p = none ∧ H0 p = none ∧ OwnR K G o d
  apart : ∀ (i j : Nat) (d e : D) (p : Addr), env[i]? = some (.own d) → env[j]? = some (.own e) → σ[i]? = some (some (.ref p)) → σ[j]? = some (some (.ref p)) → i = j

section
variable {K : PySem.W.Frag} {G0 H0 G H G' H' : Hp} {env : En} {σ : L2.St}
theorem Rep.sub (r : Rep K G0 H0 env σ G H) : Same G H := r.ext.sub
theorem Rep.grow (r : Rep K G0 H0 env σ G H) (e : Ext G H G' H') : Rep K G0 H0 env σ G' H' where
  len := r.len
  ext := r.ext.trans e
  val := fun i d h => let ⟨v, h1, h2⟩ := r.val i d h; ⟨v, h1, h2.mono (e.same r.sub)⟩
  own := fun i d h => let ⟨p, o, h1, h2, h3, h4, h5⟩ := r.own i d h; ⟨p, o, h1, e.hh _ _ h2, e.out h2 h5.nt h3, h4, h5.mono (e.same r.sub)⟩
  apart := r.apart

theorem Rep.setVal {i : Nat} {v : V} {d : D} (r : Rep K G0 H0 env σ G H) (h : Rp K G v d) : Rep K G0 H0 (env.set i (.val d)) (σ.set i (some v)) G H where
  len := by rw [List.length_set, List.length_set, r.len]
  ext := r.ext
  val := fun j e hj => by
    by_cases q : i = j
    · subst q
      by_cases hl : i < env.length
      · rw [List.getElem?_set_self hl] at hj
        cases hj
        exact ⟨v, List.getElem?_set_self (by rw [r.len]; exact hl), h⟩
      · rw [List.getElem?_eq_none (by rw [List.length_set]; omega)] at hj; cases hj
    · rw [List.getElem?_set_ne q] at hj ⊢
      exact r.val j e hj
  own := fun j e hj => by
    by_cases q : i = j
    · subst q
      by_cases hl : i < env.length
      · rw [List.getElem?_set_self hl] at hj; cases hj
      · rw [List.getElem?_eq_none (by rw [List.length_set]; omega)] at hj; cases hj
    · rw [List.getElem?_set_ne q] at hj ⊢
      exact r.own j e hj
  apart := fun j k d1 d2 p h1 h2 h3 h4 => by
    have n1 : i ≠ j := fun q => by
      subst q
      by_cases hl : i < env.length
      · rw [List.getElem?_set_self hl] at h1; cases h1
      · rw [List.getElem?_eq_none (by rw [List.length_set]; omega)] at h1; cases h1
    have n2 : i ≠ k := fun q => by
      subst q
      by_cases hl : i < env.length
      · rw [List.getElem?_set_self hl] at h2; cases h2
      · rw [List.getElem?_eq_none (by rw [List.length_set]; omega)] at h2; cases h2
    rw [List.getElem?_set_ne n1] at h1 h3
    rw [List.getElem?_set_ne n2] at h2 h4
    exact r.apart j k d1 d2 p h1 h2 h3 h4
theorem env_set_case {i j : Nat} {s t : Sl} (h : (env.set i s)[j]? = some t) : (i = j ∧ i < env.length ∧ s = t) ∨ (i ≠ j ∧ env[j]? = some t) := by
  by_cases q : i = j
  · subst q
    by_cases hl : i < env.length
    · rw [List.getElem?_set_self hl] at h
      exact .inl ⟨rfl, hl, Option.some.inj h⟩
    · rw [List.getElem?_eq_none (by rw [List.length_set]; omega)] at h; cases h
  · rw [List.getElem?_set_ne q] at h
    exact .inr ⟨q, h⟩
/-- a slot is forgotten -/
theorem Rep.setNo {i : Nat} {u : Option V} (r : Rep K G0 H0 env σ G H) : Rep K G0 H0 (env.set i .no) (σ.set i u) G H where
  len := by rw [List.length_set, List.length_set, r.len]
  ext := r.ext
  val := fun j e hj => by
    rcases env_set_case hj with ⟨_, _, z⟩ | ⟨q, hj⟩
    · cases z
    · rw [List.getElem?_set_ne q]; exact r.val j e hj
  own := fun j e hj => by
    rcases env_set_case hj with ⟨_, _, z⟩ | ⟨q, hj⟩
    · cases z
    · rw [List.getElem?_set_ne q]; exact r.own j e hj
  apart := fun j k d1 d2 p h1 h2 h3 h4 => by
    rcases env_set_case h1 with ⟨_, _, z⟩ | ⟨n1, h1⟩
    · cases z
    rcases env_set_case h2 with ⟨_, _, z⟩ | ⟨n2, h2⟩
    · cases z
    rw [List.getElem?_set_ne n1] at h3
    rw [List.getElem?_set_ne n2] at h4
    exact r.apart j k d1 d2 p h1 h2 h3 h4
/-- a slot takes a new own object -/
theorem Rep.setOwn {i : Nat} {p : Addr} {o : HO} {d : D} (r : Rep K G0 H0 env σ G H) (np : ∀ (j : Nat) (e : D) (q : Addr), env[j]? = some (.own e) → σ[j]? = some (some (.ref q)) → q ≠ p) (h1 : H p = some o) (h2 : G p = none) (h3 : H0 p = none) (h4 : OwnR K G o d) :
    Rep K G0 H0 (env.set i (.own d)) (σ.set i (some (.ref p))) G H where
  len := by rw [List.length_set, List.length_set, r.len]
  ext := r.ext
  val := fun j e hj => by
    rcases env_set_case hj with ⟨_, _, z⟩ | ⟨q, hj⟩
    · cases z
    · rw [List.getElem?_set_ne q]; exact r.val j e hj
  own := fun j e hj => by
    rcases env_set_case hj with ⟨q, hl, z⟩ | ⟨q, hj⟩
    · cases z; subst q
      exact ⟨p, o, List.getElem?_set_self (by rw [r.len]; exact hl), h1, h2, h3, h4⟩
    · rw [List.getElem?_set_ne q]; exact r.own j e hj
  apart := fun j k d1 d2 q g1 g2 g3 g4 => by
    rcases env_set_case g1 with ⟨n1, hl1, z1⟩ | ⟨n1, g1⟩
    · rcases env_set_case g2 with ⟨n2, _, z2⟩ | ⟨n2, g2⟩
      · exact n1.symm.trans n2
      · subst n1
        rw [List.getElem?_set_self (by rw [r.len]; exact hl1)] at g3
        rw [List.getElem?_set_ne n2] at g4
        cases g3
        exact absurd rfl (np k d2 _ g2 g4)
    · rw [List.getElem?_set_ne n1] at g3
      rcases env_set_case g2 with ⟨n2, hl2, z2⟩ | ⟨n2, g2⟩
      · subst n2
        rw [List.getElem?_set_self (by rw [r.len]; exact hl2)] at g4
        cases g4
        exact absurd rfl (np j d1 _ g1 g3)
      · rw [List.getElem?_set_ne n2] at g4
        exact r.apart j k d1 d2 q g1 g2 g3 g4
/-- the own object at slot i is changed -/
theorem Rep.write {i : Nat} {p : Addr} {o o' : HO} {d d' : D} (r : Rep K G0 H0 env σ G H) (hi : env[i]? = some (.own d)) (hσ : σ[i]? = some (some (.ref p))) (hp : H p = some o) (hg : G p = none) (h0 : H0 p = none) (h4 : OwnR K G o' d') :
    Rep K G0 H0 (env.set i (.own d')) σ G (upd H p o') where
  len := by rw [List.length_set, r.len]
  ext := ⟨fun a u q => by rw [upd_ne (ne_of_none q hg)]; exact r.ext.sub a u q, fun a u q => by rw [upd_ne (ne_of_none q h0)]; exact r.ext.hh a u q, r.ext.gg, r.ext.sm⟩
  val := fun j e hj => by
    rcases env_set_case hj with ⟨_, _, z⟩ | ⟨q, hj⟩
    · cases z
    · exact r.val j e hj
  own := fun j e hj => by
    rcases env_set_case hj with ⟨q, hl, z⟩ | ⟨q, hj⟩
    · cases z; subst q
      exact ⟨p, o', hσ, upd_same, hg, h0, h4⟩
    · obtain ⟨p2, o2, g1, g2, g3, g4, g5⟩ := r.own j e hj
      have ne : p2 ≠ p := fun z => q (r.apart i j d e p hi hj hσ (z ▸ g1))
      exact ⟨p2, o2, g1, by rw [upd_ne ne]; exact g2, g3, g4, g5⟩
  apart := fun j k d1 d2 q g1 g2 g3 g4 => by
    have f : ∀ {m : Nat} {e : D}, (env.set i (Sl.own d'))[m]? = some (Sl.own e) → ∃ e' : D, env[m]? = some (Sl.own e') := fun {m e} z => by
      rcases env_set_case z with ⟨n1, _, _⟩ | ⟨_, z⟩
      · subst n1; exact ⟨d, hi⟩
      · exact ⟨e, z⟩
    obtain ⟨e1, g1⟩ := f g1
    obtain ⟨e2, g2⟩ := f g2
    exact r.apart j k e1 e2 q g1 g2 g3 g4
/-- an own object becomes clean -/
theorem Rep.freeze {i : Nat} {p : Addr} {o : HO} {d : D} (r : Rep K G0 H0 env σ G H) (hi : env[i]? = some (.own d)) (hσ : σ[i]? = some (some (.ref p))) (hp : H p = some o) (hg : G p = none) (h0 : H0 p = none) (h4 : OwnR K G o d) :
    Rep K G0 H0 (env.set i (.val d)) σ (upd G p o) H ∧ Same G (upd G p o) := by
  have sg : Same G (upd G p o) := Same.upd hg
  refine ⟨⟨by rw [List.length_set, r.len], ⟨fun a u q => ?_, r.ext.hh, fun a hn ha => ?_, r.ext.sm.trans sg⟩, fun j e hj => ?_, fun j e hj => ?_, fun j k d1 d2 q g1 g2 g3 g4 => ?_⟩, sg⟩
  · by_cases e : a = p
    · subst e; rw [upd_same] at q; rw [hp]; exact q
    · rw [upd_ne e] at q; exact r.ext.sub a u q
  · rw [upd_ne (fun e => ha (by rw [e]; exact h0))]; exact r.ext.gg a hn ha
  · rcases env_set_case hj with ⟨q, hl, z⟩ | ⟨q, hj⟩
    · cases z; subst q
      exact ⟨_, hσ, (h4.mono sg).rp upd_same⟩
    · obtain ⟨v, g1, g2⟩ := r.val j e hj
      exact ⟨v, g1, g2.mono sg⟩
  · rcases env_set_case hj with ⟨q, hl, z⟩ | ⟨q, hj⟩
    · cases z
    · obtain ⟨p2, o2, g1, g2, g3, g4, g5⟩ := r.own j e hj
      have ne : p2 ≠ p := fun z => q (r.apart i j d e p hi hj hσ (z ▸ g1))
      exact ⟨p2, o2, g1, g2, by rw [upd_ne ne]; exact g3, g4, g5.mono sg⟩
  · rcases env_set_case g1 with ⟨_, _, z⟩ | ⟨_, g1⟩
    · cases z
    rcases env_set_case g2 with ⟨_, _, z⟩ | ⟨_, g2⟩
    · cases z
    exact r.apart j k d1 d2 q g1 g2 g3 g4
end

/-! ### wishes -/
def Wish {α : Type} (mg : Str → Option Value) (E : XK) (G H : Hp) (P : α → Hp → Hp → Prop) : R α → Prop
  | .ok a => ∀ G' H', Ext G H G' H' → P a G' H'
  | .ex c => ∀ G' H' C, Ext G H G' H' → mg c = some (.ref C) → E (.ref C) none H'
  | .stuck => False
theorem Wish.ext {α : Type} {mg : Str → Option Value} {E : XK} {G H G1 H1 : Hp} {P : α → Hp → Hp → Prop} (e : Ext G H G1 H1) : ∀ {r : R α}, Wish mg E G H P r → Wish mg E G1 H1 P r
  | .ok _, h => fun G' H' e' => h G' H' (e.trans e')
  | .ex _, h => fun G' H' C e' hc => h G' H' C (e.trans e') hc
  | .stuck, h => h
theorem Wish.imp {α : Type} {mg : Str → Option Value} {E : XK} {G H : Hp} {P P' : α → Hp → Hp → Prop} (f : ∀ a G' H', Ext G H G' H' → P a G' H' → P' a G' H') : ∀ {r : R α}, Wish mg E G H P r → Wish mg E G H P' r
  | .ok a, h => fun G' H' e' => f a G' H' e' (h G' H' e')
  | .ex _, h => h
  | .stuck, h => h
/-- first r, then k of its value -/
theorem Wish.bind {α β : Type} {mg : Str → Option Value} {E : XK} {G H : Hp} {P : β → Hp → Hp → Prop} {k : α → R β} : ∀ {r : R α}, Wish mg E G H P (r.bind k) → Wish mg E G H (fun a G' H' => Wish mg E G' H' P (k a)) r
  | .ok a, h => fun G' H' e' => Wish.ext (r := k a) e' h
  | .ex _, h => h
  | .stuck, h => h

/-! ### what runs -/
def Re (X : Cx) (e : Expr) : TE := fun σ H Q => ∃ t : TE, PE X e t ∧ t σ H Q
def Rt (X : Cx) (e : Expr) : TT := fun σ H Q => ∃ t : TT, PT X e t ∧ t σ H Q
def Ra (X : Cx) (es : List Expr) : TA := fun σ H Q => ∃ t : TA, PA X es t ∧ t σ H Q
def Rs (X : Cx) (st : Stmt) : TS := fun D σ H => ∃ t : TS, PS X st t ∧ t D σ H
def Rss (X : Cx) (sts : List Stmt) : TS := fun D σ H => ∃ t : TS, PSs X sts t ∧ t D σ H
section
variable {X : Cx}
theorem re_pe {e : Expr} : PE X e (Re X e) := ⟨fun pins s σ H Q I ⟨t, h, q⟩ => h.run pins s σ H Q I q⟩
theorem rt_pt {e : Expr} : PT X e (Rt X e) := ⟨fun pins s σ H Q I ⟨t, h, q⟩ => h.run pins s σ H Q I q⟩
theorem ra_pa {e : List Expr} : PA X e (Ra X e) := ⟨fun pos pins s σ H Q I ⟨t, h, q⟩ => h.run pos pins s σ H Q I q⟩
theorem rs_ps {e : Stmt} : PS X e (Rs X e) := ⟨fun pins s σ H Q I ⟨t, h, q⟩ => h.run pins s σ H Q I q⟩
theorem rss_pss {e : List Stmt} : PSs X e (Rss X e) := ⟨fun pins s σ H Q I ⟨t, h, q⟩ => h.run pins s σ H Q I q⟩
end

abbrev EF := En → R D
abbrev AF := En → R (List D)

/-- clean value -/
def SE (X : Cx) (E : XK) (e : Expr) (f : EF) : Prop := ∀ (G0 H0 : Hp) (env : En) (σ : L2.St) (G H : Hp) (Q : VK), Rep X.K G0 H0 env σ G H →
  Wish X.mg E G H (fun d G' H' => ∀ v, Rp X.K G' v d → Q v H') (f env) → Re X e σ H Q
/-- a value that may be an own object -/
def SB (X : Cx) (E : XK) (e : Expr) (f : EF) : Prop := ∀ (G0 H0 : Hp) (env : En) (σ : L2.St) (G H : Hp) (Q : VK), Rep X.K G0 H0 env σ G H →
  Wish X.mg E G H (fun d G' H' => ∀ v, Bp X.K G' H' v d → Q v H') (f env) → Re X e σ H Q
/-- a new object of one's own -/
def SF (X : Cx) (E : XK) (e : Expr) (f : EF) : Prop := ∀ (G0 H0 : Hp) (env : En) (σ : L2.St) (G H : Hp) (Q : VK), Rep X.K G0 H0 env σ G H →
  Wish X.mg E G H (fun d G' H' => ∀ p o, H p = none → H' p = some o → G' p = none → OwnR X.K G' o d → Q (.ref p) H') (f env) → Re X e σ H Q
/-- a test -/
def ST (X : Cx) (E : XK) (e : Expr) (f : EF) : Prop := ∀ (G0 H0 : Hp) (env : En) (σ : L2.St) (G H : Hp) (Q : Bool → Hp → Prop), Rep X.K G0 H0 env σ G H →
  Wish X.mg E G H (fun d _ H' => ∃ b, d = .bl b ∧ Q b H') (f env) → Rt X e σ H Q
def RpA (K : PySem.W.Frag) (G H : Hp) (vs : List V) (ds : List D) : Prop := RpAll K G vs ds
inductive BpAll (K : PySem.W.Frag) (G H : Hp) : List V → List D → Prop
  | nil : BpAll K G H [] []
  | cons {v : V} {vs : List V} {d : D} {ds : List D} : Bp K G H v d → BpAll K G H vs ds → BpAll K G H (v :: vs) (d :: ds)
def SA (X : Cx) (E : XK) (es : List Expr) (f : AF) : Prop := ∀ (G0 H0 : Hp) (env : En) (σ : L2.St) (G H : Hp) (Q : List V → Hp → Prop), Rep X.K G0 H0 env σ G H →
  Wish X.mg E G H (fun ds G' H' => ∀ vs, RpAll X.K G' vs ds → Q vs H') (f env) → Ra X es σ H Q
def SAb (X : Cx) (E : XK) (es : List Expr) (f : AF) : Prop := ∀ (G0 H0 : Hp) (env : En) (σ : L2.St) (G H : Hp) (Q : List V → Hp → Prop), Rep X.K G0 H0 env σ G H →
  Wish X.mg E G H (fun ds G' H' => ∀ vs, BpAll X.K G' H' vs ds → Q vs H') (f env) → Ra X es σ H Q

section
variable {X : Cx} {E : XK} {e a b : Expr} {f g : EF}
theorem sb (h : SE X E e f) : SB X E e f := fun G0 H0 env σ G H Q r w => h G0 H0 env σ G H Q r (w.imp fun d G' H' _ p v q => p v (.inl q))
theorem se_sf (h : SF X E e f) : SE X E e f := fun G0 H0 env σ G H Q r w => h G0 H0 env σ G H Q r (by
  revert w
  cases f env with
  | ex c => exact fun w => w
  | stuck => exact fun w => w
  | ok d =>
    intro w G' H' e' p o h1 h2 h3 h4
    have sg : Same G' (upd G' p o) := Same.upd h3
    refine w (upd G' p o) H' ⟨fun x u q => ?_, e'.hh, fun x hn hx => ?_, e'.sm.trans sg⟩ (.ref p) ((h4.mono sg).rp upd_same)
    · by_cases z : x = p
      · subst z; rw [upd_same] at q; rw [h2]; exact q
      · rw [upd_ne z] at q; exact e'.sub x u q
    · rw [upd_ne (fun z => hx (by rw [z]; exact h1))]; exact e'.gg x hn hx)
end
end Cn

namespace Cn
open PySem PySem.Spec PyProof.Rows L2

@[irreducible] def LIM : Nat := 1000000
theorem LIM_eq : LIM = 1000000 := by unfold LIM; rfl
theorem lim_le {n : Nat} (h : n ≤ LIM) : n ≤ sizeLine := by rw [LIM_eq] at h; exact Nat.le_trans h (by rw [sizeLine_eq]; decide)
theorem lim_lt {n : Nat} (h : n < LIM) : n < sizeLine := by rw [LIM_eq] at h; exact Nat.lt_of_lt_of_le h (by rw [sizeLine_eq]; decide)

/-! ### operations on data -/
@[irreducible] def inM (i : Int) : Bool := decide (i.natAbs < 18446744073709551616)
@[irreducible] def divOk (j : Int) : Bool := decide (0 < j ∧ j < 1073741824)
@[irreducible] def powOk (i j : Int) : Bool := decide (0 ≤ j ∧ j ≤ 1000000 ∧ i.natAbs < 2 ^ 64)
theorem divOk_iff {j : Int} : divOk j = true ↔ 0 < j ∧ j < 1073741824 := by unfold divOk; exact decide_eq_true_iff
theorem powOk_iff {i j : Int} : powOk i j = true ↔ 0 ≤ j ∧ j ≤ 1000000 ∧ i.natAbs < 2 ^ 64 := by unfold powOk; exact decide_eq_true_iff
def strOkB (s : Str) : Bool := decide (s.length ≤ LIM)
def addD : D → D → R D
  | .int i, .int j => .ok (.int (i + j))
  | .str i, .str j => if i.length + j.length ≤ LIM then .ok (.str (i ++ j)) else .stuck
  | .lst i, .lst j => if i.length + j.length ≤ LIM then .ok (.lst (i ++ j)) else .stuck
  | _, _ => .stuck
def subD : D → D → R D
  | .int i, .int j => .ok (.int (i - j))
  | _, _ => .stuck
def mulD : D → D → R D
  | .int i, .int j => if (inM i || inM j) = true then .ok (.int (i * j)) else .stuck
  | _, _ => .stuck
def fdivD : D → D → R D
  | .int i, .int j => if divOk j = true then .ok (.int (i / j)) else .stuck
  | _, _ => .stuck
def modD : D → D → R D
  | .int i, .int j => if 0 < j then .ok (.int (i % j)) else .stuck
  | _, _ => .stuck
def powD : D → D → R D
  | .int i, .int j => if powOk i j = true then .ok (.int (i ^ j.toNat)) else .stuck
  | _, _ => .stuck
def xorI (i j : Int) : Int := ((i.toNat ^^^ j.toNat : Nat) : Int)
def xorD : D → D → R D
  | .int i, .int j => if 0 ≤ i ∧ 0 ≤ j then .ok (.int (xorI i j)) else .stuck
  | _, _ => .stuck
def ltD : D → D → R D
  | .int i, .int j => .ok (.bl (decide (i < j)))
  | _, _ => .stuck
def gtD : D → D → R D
  | .int i, .int j => .ok (.bl (decide (j < i)))
  | _, _ => .stuck
def geD : D → D → R D
  | .int i, .int j => .ok (.bl (decide (j ≤ i)))
  | _, _ => .stuck
/-- the ints of a list of ints -/
def toInts : List D → Option (List Int)
  | [] => some []
  | .int i :: r => (toInts r).map (i :: ·)
  | _ :: _ => none
theorem toInts_eq : ∀ {ds : List D} {ns : List Int}, toInts ds = some ns → ds = ns.map D.int
  | [], ns, h => by cases (Option.some.inj h); rfl
  | .int i :: r, ns, h => by
    unfold toInts at h
    cases e : toInts r with
    | none => rw [e] at h; cases h
    | some ms =>
      rw [e] at h
      cases (Option.some.inj h)
      rw [toInts_eq e]; rfl
  | .non :: _, ns, h => by cases h
  | .bl _ :: _, ns, h => by cases h
  | .str _ :: _, ns, h => by cases h
  | .lst _ :: _, ns, h => by cases h
  | .tup _ :: _, ns, h => by cases h
  | .scr _ :: _, ns, h => by cases h
  | .dct _ :: _, ns, h => by cases h
  | .dctT _ :: _, ns, h => by cases h
  | .err _ :: _, ns, h => by cases h
  | .two _ _ :: _, ns, h => by cases h
theorem toInts_map : ∀ ns : List Int, toInts (ns.map D.int) = some ns
  | [] => rfl
  | n :: r => by
    show (toInts (r.map D.int)).map (n :: ·) = _
    rw [toInts_map r]; rfl
def leT : List D → List D → R D
  | [.int a, .int b], [.int c, .int d] => .ok (.bl (if a = c then decide (b ≤ d) else decide (a ≤ c)))
  | _, _ => .stuck
def leD : D → D → R D
  | .int i, .int j => .ok (.bl (decide (i ≤ j)))
  | .tup i, .tup j => leT i j
  | _, _ => .stuck

mutual
def D.py : D → PyData
  | .non => .none
  | .bl b => .bool b
  | .int i => .int i
  | .str s => .str s
  | .lst ds => .list (pyL ds)
  | .tup ds => .tuple (pyL ds)
  | .scr _ => .none
  | .dct _ => .none
  | .dctT _ => .none
  | .err _ => .none
  | .two _ _ => .none
def pyL : List D → List PyData
  | [] => []
  | d :: r => D.py d :: pyL r
end
mutual
def plain : D → Bool
  | .non => true
  | .bl _ => true
  | .int _ => true
  | .lst ds => plainL ds
  | .tup ds => plainL ds
  | _ => false
def plainL : List D → Bool
  | [] => true
  | d :: r => plain d && plainL r
end
mutual
def dep : D → Nat
  | .lst ds => depL ds + 1
  | .tup ds => depL ds + 1
  | _ => 0
def depL : List D → Nat
  | [] => 0
  | d :: r => max (dep d) (depL r)
end
def okD (d : D) : Bool := plain d && decide (dep d ≤ 9)
def okL (ds : List D) : Bool := plainL ds && decide (depL ds ≤ 8)

section
variable {K : PySem.W.Frag} {G G' H H' : Hp}
theorem plain_str {x : Str} : plain (.str x) = false := by simp only [plain]
theorem plain_scr {x : List Int} : plain (.scr x) = false := by simp only [plain]
theorem plain_dct {x : List Int} : plain (.dct x) = false := by simp only [plain]
theorem plain_dctT {x : List (List Int)} : plain (.dctT x) = false := by simp only [plain]
theorem plain_err {x : Addr} : plain (.err x) = false := by simp only [plain]
theorem plain_two {x y : List Int} : plain (.two x y) = false := by simp only [plain]
theorem plain_lst {x : List D} : plain (.lst x) = plainL x := by simp only [plain]
theorem plain_tup {x : List D} : plain (.tup x) = plainL x := by simp only [plain]
theorem plainL_cons {d : D} {x : List D} : plainL (d :: x) = (plain d && plainL x) := by simp only [plainL]
theorem py_lst {x : List D} : D.py (.lst x) = .list (pyL x) := by simp only [D.py]
theorem py_tup {x : List D} : D.py (.tup x) = .tuple (pyL x) := by simp only [D.py]
theorem pyL_cons {d : D} {x : List D} : pyL (d :: x) = d.py :: pyL x := by simp only [pyL]
mutual
theorem Rp.dp (s : Same G H) {v : V} {d : D} (r : Rp K G v d) : plain d = true → Dp K H v d.py := by
  cases r with
  | non => exact fun _ => by simp only [D.py]; exact .non
  | bl b => exact fun _ => by simp only [D.py]; exact .bl b
  | int b => exact fun _ => by simp only [D.py]; exact .int b
  | str b => exact fun h => by rw [plain_str] at h; cases h
  | lst e r => exact fun h => by rw [plain_lst] at h; rw [py_lst]; exact .lst (SqL.of (s _ _ e)) (RpAll.dp s r h)
  | tup e r => exact fun h => by rw [plain_tup] at h; rw [py_tup]; exact .tup (SqT.of (s _ _ e)) (RpAll.dp s r h)
  | scr _ => exact fun h => by rw [plain_scr] at h; cases h
  | dct _ => exact fun h => by rw [plain_dct] at h; cases h
  | dctT _ => exact fun h => by rw [plain_dctT] at h; cases h
  | err _ => exact fun h => by rw [plain_err] at h; cases h
  | two _ _ _ _ => exact fun h => by rw [plain_two] at h; cases h
theorem RpAll.dp (s : Same G H) {vs : List V} {ds : List D} (r : RpAll K G vs ds) : plainL ds = true → DpAll K H vs (pyL ds) := by
  cases r with
  | nil => exact fun _ => by simp only [pyL]; exact .nil
  | cons e r =>
    intro h
    rw [plainL_cons, Bool.and_eq_true] at h
    rw [pyL_cons]
    exact .cons (Rp.dp s e h.1) (RpAll.dp s r h.2)
end
mutual
theorem plain_lay : ∀ (d : D), plain d = true → PyData.canLay0 d.py = true ∧ PyData.depth d.py = dep d
  | .non, _ => ⟨by simp only [D.py, PyData.canLay0], by simp only [D.py, PyData.depth, dep]⟩
  | .bl _, _ => ⟨by simp only [D.py, PyData.canLay0], by simp only [D.py, PyData.depth, dep]⟩
  | .int _, _ => ⟨by simp only [D.py, PyData.canLay0], by simp only [D.py, PyData.depth, dep]⟩
  | .str _, h => by rw [plain_str] at h; cases h
  | .scr _, h => by rw [plain_scr] at h; cases h
  | .dct _, h => by rw [plain_dct] at h; cases h
  | .dctT _, h => by rw [plain_dctT] at h; cases h
  | .err _, h => by rw [plain_err] at h; cases h
  | .two _ _, h => by rw [plain_two] at h; cases h
  | .lst ds, h => by
    rw [plain_lst] at h
    have q := plainL_lay ds h
    refine ⟨by simp only [D.py, PyData.canLay0]; exact q.1, by simp only [D.py, PyData.depth, dep]; rw [q.2]⟩
  | .tup ds, h => by
    rw [plain_tup] at h
    have q := plainL_lay ds h
    refine ⟨by simp only [D.py, PyData.canLay0]; exact q.1, by simp only [D.py, PyData.depth, dep]; rw [q.2]⟩
theorem plainL_lay : ∀ (ds : List D), plainL ds = true → PyData.canLayAll0 (pyL ds) = true ∧ PyData.depthAll (pyL ds) = depL ds
  | [], _ => ⟨by simp only [pyL, PyData.canLayAll0], by simp only [pyL, PyData.depthAll, depL]⟩
  | d :: r, h => by
    rw [plainL_cons, Bool.and_eq_true] at h
    have q1 := plain_lay d h.1
    have q2 := plainL_lay r h.2
    refine ⟨by simp only [pyL, PyData.canLayAll0, q1.1, q2.1, Bool.and_self], by simp only [pyL, PyData.depthAll, depL, q1.2, q2.2]⟩
end
theorem okD_iff {d : D} (h : okD d = true) : plain d = true ∧ dep d ≤ 9 := by
  unfold okD at h
  rw [Bool.and_eq_true] at h
  exact ⟨h.1, of_decide_eq_true h.2⟩
theorem okL_lst {ds : List D} (h : okL ds = true) : okD (.lst ds) = true := by
  unfold okL at h
  rw [Bool.and_eq_true] at h
  have h2 := of_decide_eq_true h.2
  unfold okD
  rw [Bool.and_eq_true, plain_lst]
  refine ⟨h.1, decide_eq_true ?_⟩
  simp only [dep]
  omega
theorem okL_tup {ds : List D} (h : okL ds = true) : okD (.tup ds) = true := by
  unfold okL at h
  rw [Bool.and_eq_true] at h
  have h2 := of_decide_eq_true h.2
  unfold okD
  rw [Bool.and_eq_true, plain_tup]
  refine ⟨h.1, decide_eq_true ?_⟩
  simp only [dep]
  omega
theorem ok_shaped {d : D} (h : okD d = true) : SeqAt.shaped d.py = true := by
  have q0 := okD_iff h
  have q := plain_lay d q0.1
  unfold SeqAt.shaped
  rw [q.1, decide_eq_true (show PyData.depth d.py ≤ 64 by rw [q.2]; omega)]
  rfl
theorem ok_dp (s : Same G H) {v : V} {d : D} (h : okD d = true) (r : Rp K G v d) : Dp K H v d.py := Rp.dp s r (okD_iff h).1
end

/-- scalars of one kind, or plain data -/
def eqB : D → D → Option Bool
  | .int i, .int j => some (decide (i = j))
  | .bl i, .bl j => some (decide (i = j))
  | .str i, .str j => some (decide (i = j))
  | .non, .non => some true
  | .lst i, .lst j => if (okL i && okL j) = true then some (PyData.eqvAll (pyL i) (pyL j)) else none
  | .tup i, .tup j => if (okL i && okL j) = true then some (PyData.eqvAll (pyL i) (pyL j)) else none
  | _, _ => none
def eqD (a b : D) : R D := match eqB a b with
  | some k => .ok (.bl k)
  | none => .stuck
def neD (a b : D) : R D := match eqB a b with
  | some k => .ok (.bl (!k))
  | none => .stuck
def isND : D → D → R D
  | .non, .non => .ok (.bl true)
  | .int _, .non => .ok (.bl false)
  | .lst _, .non => .ok (.bl false)
  | .tup _, .non => .ok (.bl false)
  | _, _ => .stuck
def flatD : D → Bool
  | .non => true
  | .bl _ => true
  | .int _ => true
  | .str _ => true
  | _ => false
/-- == of flat values -/
def eqF : D → D → Bool
  | .non, .non => true
  | .bl a, .bl b => a == b
  | .bl a, .int b => (if a then 1 else 0) == b
  | .int a, .bl b => a == (if b then 1 else 0)
  | .int a, .int b => a == b
  | .str a, .str b => a == b
  | _, _ => false
def inB (x : D) : D → Option Bool
  | .lst ds => if (flatD x && ds.all flatD) = true then some (ds.any fun y => eqF y x) else
      if (okD x && okL ds) = true then some ((pyL ds).any fun z => PyData.eqv z x.py) else none
  | .tup ds => if (flatD x && ds.all flatD) = true then some (ds.any fun y => eqF y x) else none
  | .dct ks => match x with
    | .int i => some (decide (i ∈ ks))
    | _ => none
  | .dctT ks => match x with
    | .tup xs => (toInts xs).map fun ns => decide (ns ∈ ks)
    | _ => none
  | _ => none
def inD (x s : D) : R D := match inB x s with
  | some k => .ok (.bl k)
  | none => .stuck
def ninD (x s : D) : R D := match inB x s with
  | some k => .ok (.bl (!k))
  | none => .stuck

/-! ### the operations' rules -/
def OS (X : Cx) (E : XK) (f : Value → Value → Sem Value) (o : D → D → R D) : Prop :=
  ∀ dx dy, ∃ r : L2.R2, OpR X f r ∧ ∀ (G H : Hp) (vx vy : V) (Q : VK), Same G H → Bp X.K G H vx dx → Bp X.K G H vy dy →
    Wish X.mg E G H (fun d G' H' => ∀ v, Rp X.K G' v d → Q v H') (o dx dy) → r vx vy H Q
section
variable {X : Cx} {E : XK}
theorem opr_false {f : Value → Value → Sem Value} : OpR X f (fun _ _ _ _ => False) := fun _ _ _ _ _ _ _ _ _ _ _ _ h => h.elim
theorem wok {mg : Str → Option Value} {G H : Hp} {d : D} {P : D → Hp → Hp → Prop} (w : Wish mg E G H P (.ok d)) (s : Same G H) : P d G H := w G H (Ext.refl s)
theorem wite {α : Type} {mg : Str → Option Value} {G H : Hp} {d : α} {P : α → Hp → Hp → Prop} {c : Prop} [Decidable c] (w : Wish mg E G H P (if c then .ok d else .stuck)) : c ∧ Wish mg E G H P (.ok d) := by
  by_cases h : c
  · rw [if_pos h] at w; exact ⟨h, w⟩
  · rw [if_neg h] at w; exact (show False from w).elim
theorem os_add : OS X E (binaryOp .Add) addD := by
  intro dx dy
  cases dx <;> cases dy <;> first
    | exact ⟨_, opr_false, fun _ _ _ _ _ _ _ _ w => (show False from w).elim⟩
    | skip
  · rename_i i j
    refine ⟨_, op_add, fun G H vx vy Q s bx by' w => ?_⟩
    cases bx.int; cases by'.int
    exact ⟨i, j, rfl, rfl, wok w s _ (.int _)⟩
  · rename_i i j
    refine ⟨_, op_add_str, fun G H vx vy Q s bx by' w => ?_⟩
    cases bx.str; cases by'.str
    obtain ⟨hc, w⟩ := wite (c := i.length + j.length ≤ LIM) w
    exact ⟨i, j, rfl, rfl, lim_le hc, wok w s _ (.str _)⟩
  · rename_i i j
    refine ⟨_, op_cat, fun G H vx vy Q s bx by' w => ?_⟩
    obtain ⟨a, xs, rfl, ha, ra⟩ := bx.lst s
    obtain ⟨b, ys, rfl, hb, rb⟩ := by'.lst s
    obtain ⟨hl, w⟩ := wite (c := i.length + j.length ≤ LIM) w
    refine ⟨a, b, xs, ys, rfl, rfl, ha, hb, lim_le (by rw [ra.length, rb.length]; exact hl), fun p hp => ?_⟩
    have sg : Same G (upd G p (.lst (xs ++ ys))) := Same.upd (s.free hp)
    exact w _ _ (Ext.new s hp) _ (.lst upd_same ((ra.append rb).mono sg))
theorem os_sub : OS X E (binaryOp .Sub) subD := by
  intro dx dy
  cases dx <;> cases dy <;> first
    | exact ⟨_, opr_false, fun _ _ _ _ _ _ _ _ w => (show False from w).elim⟩
    | skip
  rename_i i j
  refine ⟨_, op_sub, fun G H vx vy Q s bx by' w => ?_⟩
  cases bx.int; cases by'.int
  exact ⟨i, j, rfl, rfl, wok w s _ (.int _)⟩
theorem inM_iff {i : Int} (h : inM i = true) : -(2 ^ 64) < i ∧ i < 2 ^ 64 := by
  unfold inM at h
  have := of_decide_eq_true h
  omega
theorem inM_of {i : Int} (h : -(2 ^ 64) < i ∧ i < 2 ^ 64) : inM i = true := by
  unfold inM
  exact decide_eq_true (by omega)
theorem os_mul : OS X E (binaryOp .Mult) mulD := by
  intro dx dy
  cases dx <;> cases dy <;> first
    | exact ⟨_, opr_false, fun _ _ _ _ _ _ _ _ w => (show False from w).elim⟩
    | skip
  rename_i i j
  refine ⟨_, op_mul, fun G H vx vy Q s bx by' w => ?_⟩
  cases bx.int; cases by'.int
  obtain ⟨h, w⟩ := wite (c := (inM i || inM j) = true) w
  rw [Bool.or_eq_true] at h
  exact ⟨i, j, rfl, rfl, h.imp inM_iff inM_iff, wok w s _ (.int _)⟩
theorem os_fdiv : OS X E (binaryOp .FloorDiv) fdivD := by
  intro dx dy
  cases dx <;> cases dy <;> first
    | exact ⟨_, opr_false, fun _ _ _ _ _ _ _ _ w => (show False from w).elim⟩
    | skip
  rename_i i j
  refine ⟨_, op_fdiv, fun G H vx vy Q s bx by' w => ?_⟩
  cases bx.int; cases by'.int
  obtain ⟨h, w⟩ := wite (c := divOk j = true) w
  exact ⟨i, j, rfl, rfl, divOk_iff.mp h, wok w s _ (.int _)⟩
theorem os_mod : OS X E (binaryOp .Mod) modD := by
  intro dx dy
  cases dx <;> cases dy <;> first
    | exact ⟨_, opr_false, fun _ _ _ _ _ _ _ _ w => (show False from w).elim⟩
    | skip
  rename_i i j
  refine ⟨_, op_mod, fun G H vx vy Q s bx by' w => ?_⟩
  cases bx.int; cases by'.int
  obtain ⟨h, w⟩ := wite (c := 0 < j) w
  exact ⟨i, j, rfl, rfl, h, wok w s _ (.int _)⟩
theorem os_pow : OS X E (binaryOp .Pow) powD := by
  intro dx dy
  cases dx <;> cases dy <;> first
    | exact ⟨_, opr_false, fun _ _ _ _ _ _ _ _ w => (show False from w).elim⟩
    | skip
  rename_i i j
  refine ⟨_, op_pow, fun G H vx vy Q s bx by' w => ?_⟩
  cases bx.int; cases by'.int
  obtain ⟨h, w⟩ := wite (c := powOk i j = true) w
  exact ⟨i, j, rfl, rfl, powOk_iff.mp h, wok w s _ (.int _)⟩
theorem os_xor : OS X E (binaryOp .BitXor) xorD := by
  intro dx dy
  cases dx <;> cases dy <;> first
    | exact ⟨_, opr_false, fun _ _ _ _ _ _ _ _ w => (show False from w).elim⟩
    | skip
  rename_i i j
  refine ⟨_, op_xor, fun G H vx vy Q s bx by' w => ?_⟩
  cases bx.int; cases by'.int
  obtain ⟨h, w⟩ := wite (c := 0 ≤ i ∧ 0 ≤ j) w
  refine ⟨i, j, rfl, rfl, ?_⟩
  show Q (.int (Builtin.bitXor i j)) H
  rw [Bits.bitXor_pp h.1 h.2]
  exact wok w s _ (.int _)
theorem os_lt : OS X E (compareOp .Lt) ltD := by
  intro dx dy
  cases dx <;> cases dy <;> first
    | exact ⟨_, opr_false, fun _ _ _ _ _ _ _ _ w => (show False from w).elim⟩
    | skip
  rename_i i j
  refine ⟨_, op_lt, fun G H vx vy Q s bx by' w => ?_⟩
  cases bx.int; cases by'.int
  exact ⟨i, j, rfl, rfl, wok w s _ (.bl _)⟩
theorem os_gt : OS X E (compareOp .Gt) gtD := by
  intro dx dy
  cases dx <;> cases dy <;> first
    | exact ⟨_, opr_false, fun _ _ _ _ _ _ _ _ w => (show False from w).elim⟩
    | skip
  rename_i i j
  refine ⟨_, op_gt, fun G H vx vy Q s bx by' w => ?_⟩
  cases bx.int; cases by'.int
  exact ⟨i, j, rfl, rfl, wok w s _ (.bl _)⟩
theorem os_ge : OS X E (compareOp .GtE) geD := by
  intro dx dy
  cases dx <;> cases dy <;> first
    | exact ⟨_, opr_false, fun _ _ _ _ _ _ _ _ w => (show False from w).elim⟩
    | skip
  rename_i i j
  refine ⟨_, op_ge, fun G H vx vy Q s bx by' w => ?_⟩
  cases bx.int; cases by'.int
  exact ⟨i, j, rfl, rfl, wok w s _ (.bl _)⟩
theorem lex2 (a b c d : Int) : Ob.lexAt (fun j => decide (([a, b] : List Int).getD j 0 = ([c, d] : List Int).getD j 0)) (fun j => decide (([a, b] : List Int).getD j 0 ≤ ([c, d] : List Int).getD j 0)) (decide (([a, b] : List Int).length ≤ ([c, d] : List Int).length)) 0 (min ([a, b] : List Int).length ([c, d] : List Int).length) =
    if a = c then decide (b ≤ d) else decide (a ≤ c) := by
  show (if decide (a = c) = true then (if decide (b = d) = true then decide (2 ≤ 2) else decide (b ≤ d)) else decide (a ≤ c)) = _
  by_cases h1 : a = c
  · rw [if_pos (decide_eq_true h1), if_pos h1]
    by_cases h2 : b = d
    · rw [if_pos (decide_eq_true h2), decide_eq_true (show b ≤ d by omega)]; rfl
    · rw [if_neg (by rw [decide_eq_false h2]; decide)]
  · rw [if_neg (by rw [decide_eq_false h1]; decide), if_neg h1]
theorem two_ints {ds : List D} : (∃ a b, ds = [.int a, .int b]) ∨ ∀ a b, ds ≠ [.int a, .int b] := by
  by_cases h : ∃ a b, ds = [.int a, .int b]
  · exact .inl h
  · exact .inr fun a b e => h ⟨a, b, e⟩
theorem leD_no {i j : List D} (h : (∀ a b, i ≠ [.int a, .int b]) ∨ ∀ a b, j ≠ [.int a, .int b]) : leD (.tup i) (.tup j) = .stuck := by
  show leT i j = .stuck
  unfold leT
  split
  · rcases h with h | h
    · exact absurd rfl (h _ _)
    · exact absurd rfl (h _ _)
  · rfl
theorem os_le (hu : X.A.units < cLine) : OS X E (compareOp .LtE) leD := by
  intro dx dy
  cases dx <;> cases dy <;> first
    | exact ⟨_, opr_false, fun _ _ _ _ _ _ _ _ w => (show False from w).elim⟩
    | skip
  · rename_i i j
    refine ⟨_, op_le, fun G H vx vy Q s bx by' w => ?_⟩
    cases bx.int; cases by'.int
    exact ⟨i, j, rfl, rfl, wok w s _ (.bl _)⟩
  · rename_i i j
    refine ⟨_, op_leT hu, fun G H vx vy Q s bx by' w => ?_⟩
    obtain ⟨a, xs, rfl, ha, ra⟩ := bx.tup
    obtain ⟨b, ys, rfl, hb, rb⟩ := by'.tup
    rcases two_ints (ds := i) with ⟨n1, n2, rfl⟩ | h
    · rcases two_ints (ds := j) with ⟨m1, m2, rfl⟩ | h
      · have g1 := RpAll.ints (ns := [n1, n2]) ra
        have g2 := RpAll.ints (ns := [m1, m2]) rb
        subst g1 g2
        refine ⟨a, b, [n1, n2], [m1, m2], rfl, rfl, SqT.of (s _ _ ha), SqT.of (s _ _ hb), ?_⟩
        rw [lex2]
        exact wok w s _ (.bl _)
      · rw [leD_no (.inr h)] at w
        exact (show False from w).elim
    · rw [leD_no (.inl h)] at w
      exact (show False from w).elim
theorem os_eq (hu : X.A.units + 64 < cLine) : OS X E (compareOp .Eq) eqD := by
  intro dx dy
  cases dx <;> cases dy <;> first
    | exact ⟨_, opr_false, fun _ _ _ _ _ _ _ _ w => (show False from w).elim⟩
    | skip
  · refine ⟨_, op_eq, fun G H vx vy Q s bx by' w => ?_⟩
    cases bx.non; cases by'.non
    exact ⟨rfl, wok w s _ (.bl _)⟩
  · rename_i i j
    refine ⟨_, op_eq, fun G H vx vy Q s bx by' w => ?_⟩
    cases bx.bl; cases by'.bl
    refine ⟨rfl, ?_⟩
    rw [dec_bl, Bool.beq_eq_decide_eq]
    exact wok w s _ (.bl _)
  · rename_i i j
    refine ⟨_, op_eq, fun G H vx vy Q s bx by' w => ?_⟩
    cases bx.int; cases by'.int
    refine ⟨rfl, ?_⟩
    rw [dec_int, Bool.beq_eq_decide_eq]
    exact wok w s _ (.bl _)
  · rename_i i j
    refine ⟨_, op_eq, fun G H vx vy Q s bx by' w => ?_⟩
    cases bx.str; cases by'.str
    refine ⟨rfl, ?_⟩
    rw [dec_str, Bool.beq_eq_decide_eq]
    exact wok w s _ (.bl _)
  · rename_i i j
    refine ⟨_, op_eqD hu, fun G H vx vy Q s bx by' w => ?_⟩
    unfold eqD eqB at w
    by_cases h : (okL i && okL j) = true
    · dsimp only at w
      rw [if_pos h] at w
      rw [Bool.and_eq_true] at h
      have p1 := okL_lst h.1
      have p2 := okL_lst h.2
      refine ⟨_, _, ok_dp (Same.refl H) p1 (bx.full s), ok_dp (Same.refl H) p2 (by'.full s), ok_shaped p1, ok_shaped p2, ?_⟩
      exact wok w s _ (.bl _)
    · dsimp only at w
      rw [if_neg h] at w
      exact (show False from w).elim
  · rename_i i j
    refine ⟨_, op_eqD hu, fun G H vx vy Q s bx by' w => ?_⟩
    unfold eqD eqB at w
    by_cases h : (okL i && okL j) = true
    · dsimp only at w
      rw [if_pos h] at w
      rw [Bool.and_eq_true] at h
      have p1 := okL_tup h.1
      have p2 := okL_tup h.2
      refine ⟨_, _, ok_dp (Same.refl H) p1 (bx.full s), ok_dp (Same.refl H) p2 (by'.full s), ok_shaped p1, ok_shaped p2, ?_⟩
      exact wok w s _ (.bl _)
    · dsimp only at w
      rw [if_neg h] at w
      exact (show False from w).elim
theorem os_ne (hu : X.A.units + 64 < cLine) : OS X E (compareOp .NotEq) neD := by
  intro dx dy
  cases dx <;> cases dy <;> first
    | exact ⟨_, opr_false, fun _ _ _ _ _ _ _ _ w => (show False from w).elim⟩
    | skip
  · refine ⟨_, op_ne, fun G H vx vy Q s bx by' w => ?_⟩
    cases bx.non; cases by'.non
    exact ⟨rfl, wok w s _ (.bl _)⟩
  · rename_i i j
    refine ⟨_, op_ne, fun G H vx vy Q s bx by' w => ?_⟩
    cases bx.bl; cases by'.bl
    refine ⟨rfl, ?_⟩
    rw [dec_bl, Bool.beq_eq_decide_eq]
    exact wok w s _ (.bl _)
  · rename_i i j
    refine ⟨_, op_ne, fun G H vx vy Q s bx by' w => ?_⟩
    cases bx.int; cases by'.int
    refine ⟨rfl, ?_⟩
    rw [dec_int, Bool.beq_eq_decide_eq]
    exact wok w s _ (.bl _)
  · rename_i i j
    refine ⟨_, op_ne, fun G H vx vy Q s bx by' w => ?_⟩
    cases bx.str; cases by'.str
    refine ⟨rfl, ?_⟩
    rw [dec_str, Bool.beq_eq_decide_eq]
    exact wok w s _ (.bl _)
  · rename_i i j
    refine ⟨_, op_neD hu, fun G H vx vy Q s bx by' w => ?_⟩
    unfold neD eqB at w
    by_cases h : (okL i && okL j) = true
    · dsimp only at w
      rw [if_pos h] at w
      rw [Bool.and_eq_true] at h
      have p1 := okL_lst h.1
      have p2 := okL_lst h.2
      refine ⟨_, _, ok_dp (Same.refl H) p1 (bx.full s), ok_dp (Same.refl H) p2 (by'.full s), ok_shaped p1, ok_shaped p2, ?_⟩
      exact wok w s _ (.bl _)
    · dsimp only at w
      rw [if_neg h] at w
      exact (show False from w).elim
  · rename_i i j
    refine ⟨_, op_neD hu, fun G H vx vy Q s bx by' w => ?_⟩
    unfold neD eqB at w
    by_cases h : (okL i && okL j) = true
    · dsimp only at w
      rw [if_pos h] at w
      rw [Bool.and_eq_true] at h
      have p1 := okL_tup h.1
      have p2 := okL_tup h.2
      refine ⟨_, _, ok_dp (Same.refl H) p1 (bx.full s), ok_dp (Same.refl H) p2 (by'.full s), ok_shaped p1, ok_shaped p2, ?_⟩
      exact wok w s _ (.bl _)
    · dsimp only at w
      rw [if_neg h] at w
      exact (show False from w).elim
theorem os_isN : OS X E (compareOp .Is) isND := by
  intro dx dy
  cases dx <;> cases dy <;> first
    | exact ⟨_, opr_false, fun _ _ _ _ _ _ _ _ w => (show False from w).elim⟩
    | skip
  · refine ⟨_, op_isN, fun G H vx vy Q s bx by' w => ?_⟩
    cases bx.non; cases by'.non
    exact ⟨rfl, wok w s _ (.bl _)⟩
  · refine ⟨_, op_isN, fun G H vx vy Q s bx by' w => ?_⟩
    cases bx.int; cases by'.non
    exact ⟨rfl, wok w s _ (.bl _)⟩
  · refine ⟨_, op_isN, fun G H vx vy Q s bx by' w => ?_⟩
    obtain ⟨a, xs, rfl, ha, ra⟩ := bx.lst s
    cases by'.non
    exact ⟨rfl, wok w s _ (.bl _)⟩
  · refine ⟨_, op_isN, fun G H vx vy Q s bx by' w => ?_⟩
    obtain ⟨a, xs, rfl, ha, ra⟩ := bx.tup
    cases by'.non
    exact ⟨rfl, wok w s _ (.bl _)⟩

/-! in, not in -/
theorem flat_rp {K : PySem.W.Frag} {G : Hp} {v : V} {d : D} (h : Rp K G v d) (f : flatD d = true) : flatV v = true := by
  cases h <;> first | rfl | cases f
theorem flat_all {K : PySem.W.Frag} {G : Hp} : ∀ {vs : List V} {ds : List D}, RpAll K G vs ds → ds.all flatD = true → vs.all flatV = true
  | _, _, .nil, _ => rfl
  | _, _, .cons h r, f => by
    rw [List.all_cons, Bool.and_eq_true] at f ⊢
    exact ⟨flat_rp h f.1, flat_all r f.2⟩
theorem eqF_rp {K : PySem.W.Frag} {G G' : Hp} {v w : V} {d e : D} (h : Rp K G v d) (h' : Rp K G' w e) (f : flatD d = true) (f' : flatD e = true) : eqV v w = eqF d e := by
  cases h <;> cases h' <;> first | rfl | (cases f; done) | (cases f'; done)
theorem in_any {K : PySem.W.Frag} {G G' : Hp} {w : V} {e : D} (h' : Rp K G' w e) (f' : flatD e = true) : ∀ {vs : List V} {ds : List D}, RpAll K G vs ds → ds.all flatD = true → inV w vs = ds.any fun y => eqF y e
  | _, _, .nil, _ => rfl
  | _, _, .cons h r, f => by
    rw [List.all_cons, Bool.and_eq_true] at f
    show (_ :: _ : List V).any _ = _
    rw [List.any_cons, List.any_cons, eqF_rp h h' f.1 f']
    congr 1
    exact in_any h' f' r f.2
def rDIn : L2.R2 := fun y x H Q => ∃ a o, x = .ref a ∧ DGet H a y o ∧ Q (.bl o.isSome) H
def rDNotIn : L2.R2 := fun y x H Q => ∃ a o, x = .ref a ∧ DGet H a y o ∧ Q (.bl (!o.isSome)) H
theorem op_din (hu : X.A.units + 1 < cLine) : OpR X (compareOp .In) rDIn := by
  intro pins s σ H x y v u Q I rx ry h
  obtain ⟨a, o, rfl, g, q⟩ := h
  cases ry
  exact d_in hu I g rx fun s' I' => ⟨.bl _, H, I', rfl, q⟩
theorem op_dnotin (hu : X.A.units + 1 < cLine) : OpR X (compareOp .NotIn) rDNotIn := by
  intro pins s σ H x y v u Q I rx ry h
  obtain ⟨a, o, rfl, g, q⟩ := h
  cases ry
  exact d_notIn hu I g rx fun s' I' => ⟨.bl _, H, I', rfl, q⟩
theorem valV_set {κ : Type} [DecidableEq κ] (k : κ) : ∀ ks : List κ, (valV (ks.map fun x => (x, V.bl true)) k).isSome = ks.any fun x => decide (x = k)
  | [] => by simp [valV]
  | a :: r => by
    by_cases e : a = k
    · rw [List.map_cons, valV_pos e, List.any_cons, decide_eq_true e]
      rfl
    · rw [List.map_cons, valV_neg e, valV_set k r, List.any_cons, decide_eq_false e, Bool.false_or]
theorem kt_of {κ μ : Type} (f : κ → μ) (ks : List κ) : (ks.map fun k => (f k, V.bl true)) = ((ks.map f).map fun x => (x, V.bl true)) := by
  rw [List.map_map]; rfl
theorem mem_inl (i : Int) (ks : List Int) : ((ks.map fun k => (Sum.inl k : Key)).any fun x => decide (x = Sum.inl i)) = decide (i ∈ ks) := by
  induction ks with
  | nil => simp
  | cons a r ih =>
    rw [List.map_cons, List.any_cons, ih, key_ll]
    by_cases e : a = i
    · subst e; simp
    · have : ¬ i = a := fun z => e z.symm
      simp [e, this]
theorem inl_inj : ∀ {a b : List Int}, a.map (fun k => (Sum.inl k : Key)) = b.map (fun k => (Sum.inl k : Key)) → a = b
  | [], [], _ => rfl
  | [], _ :: _, h => by cases h
  | _ :: _, [], h => by cases h
  | x :: a, y :: b, h => by
    rw [List.map_cons, List.map_cons] at h
    have h1 := (List.cons.inj h).1
    cases h1
    rw [inl_inj (List.cons.inj h).2]
theorem mem_inlT (t : List Int) (ks : List (List Int)) : ((ks.map fun t => t.map fun k => (Sum.inl k : Key)).any fun x => decide (x = t.map fun k => (Sum.inl k : Key))) = decide (t ∈ ks) := by
  induction ks with
  | nil => simp
  | cons a r ih =>
    rw [List.map_cons, List.any_cons, ih]
    by_cases e : a = t
    · subst e; simp
    · have h1 : ¬ (a.map fun k => (Sum.inl k : Key)) = t.map fun k => (Sum.inl k : Key) := fun z => e (inl_inj z)
      have : ¬ t = a := fun z => e z.symm
      simp [h1, this]
theorem kV_map (ns : List Int) : (ns.map fun k => (Sum.inl k : Key)).map kV = ns.map V.int := by
  rw [List.map_map]; rfl
theorem os_in (hu : X.A.units + 65 < cLine) : OS X E (compareOp .In) inD := by
  have hu1 : X.A.units + 1 < cLine := by omega
  intro dx dy
  have none_case : inB dx dy = none → ∃ r : L2.R2, OpR X (compareOp .In) r ∧ ∀ (G H : Hp) (vx vy : V) (Q : VK), Same G H → Bp X.K G H vx dx → Bp X.K G H vy dy →
      Wish X.mg E G H (fun d G' H' => ∀ v, Rp X.K G' v d → Q v H') (inD dx dy) → r vx vy H Q := fun e => ⟨_, opr_false, fun _ _ _ _ _ _ _ _ w => by
    unfold inD at w
    rw [e] at w
    exact w⟩
  cases dy with
  | lst ds =>
    by_cases h1 : (flatD dx && ds.all flatD) = true
    · refine ⟨_, op_in_seq, fun G H vx vy Q s bx by' w => ?_⟩
      unfold inD inB at w
      dsimp only at w
      rw [if_pos h1] at w
      rw [Bool.and_eq_true] at h1
      obtain ⟨a, xs, rfl, ha, ra⟩ := by'.lst s
      have rx := bx.full s
      refine ⟨a, xs, rfl, .inl (SqL.of ha), flat_rp rx h1.1, flat_all ra h1.2, ?_⟩
      show Q (.bl (inV vx xs)) H
      rw [in_any rx h1.1 ra h1.2]
      exact wok w s _ (.bl _)
    · by_cases h2 : (okD dx && okL ds) = true
      · refine ⟨_, op_inD hu, fun G H vx vy Q s bx by' w => ?_⟩
        unfold inD inB at w
        dsimp only at w
        rw [if_neg h1, if_pos h2] at w
        rw [Bool.and_eq_true] at h2
        have p2 := okL_lst h2.2
        have q2 := ok_dp (Same.refl H) p2 (by'.full s)
        have q3 := ok_shaped p2
        simp only [D.py] at q2 q3
        exact ⟨_, _, ok_dp (Same.refl H) h2.1 (bx.full s), q2, ok_shaped h2.1, q3, wok w s _ (.bl _)⟩
      · exact none_case (by unfold inB; dsimp only; rw [if_neg h1, if_neg h2])
  | tup ds =>
    by_cases h1 : (flatD dx && ds.all flatD) = true
    · refine ⟨_, op_in_seq, fun G H vx vy Q s bx by' w => ?_⟩
      unfold inD inB at w
      dsimp only at w
      rw [if_pos h1] at w
      rw [Bool.and_eq_true] at h1
      obtain ⟨a, xs, rfl, ha, ra⟩ := by'.tup
      have rx := bx.full s
      refine ⟨a, xs, rfl, .inr (SqT.of (s _ _ ha)), flat_rp rx h1.1, flat_all ra h1.2, ?_⟩
      show Q (.bl (inV vx xs)) H
      rw [in_any rx h1.1 ra h1.2]
      exact wok w s _ (.bl _)
    · exact none_case (by unfold inB; dsimp only; rw [if_neg h1])
  | dct ks =>
    cases dx with
    | int i =>
      refine ⟨_, op_din hu1, fun G H vx vy Q s bx by' w => ?_⟩
      obtain ⟨a, rfl, ha⟩ := by'.dct s
      cases bx.int
      refine ⟨a, _, rfl, DGet.k (k := Sum.inl i) ha, ?_⟩
      rw [kt_of, valV_set, mem_inl]
      exact wok w s _ (.bl _)
    | _ => exact none_case rfl
  | dctT ks =>
    cases dx with
    | tup xs =>
      cases e : toInts xs with
      | none => exact none_case (by unfold inB; dsimp only; rw [e]; rfl)
      | some ns =>
        refine ⟨_, op_din hu1, fun G H vx vy Q s bx by' w => ?_⟩
        obtain ⟨a, rfl, ha⟩ := by'.dctT s
        obtain ⟨b, vs, rfl, hb, rb⟩ := bx.tup
        have f1 := toInts_eq e
        subst f1
        have g1 := rb.ints
        subst g1
        refine ⟨a, _, rfl, DGet.t (k := ns.map fun k => (Sum.inl k : Key)) ha (by rw [kV_map]; exact s _ _ hb), ?_⟩
        rw [kt_of, valV_set, mem_inlT]
        unfold inD inB at w
        dsimp only at w
        rw [e] at w
        exact wok w s _ (.bl _)
    | _ => exact none_case rfl
  | _ => exact none_case rfl
theorem os_nin (hu : X.A.units + 65 < cLine) : OS X E (compareOp .NotIn) ninD := by
  have hu1 : X.A.units + 1 < cLine := by omega
  intro dx dy
  have none_case : inB dx dy = none → ∃ r : L2.R2, OpR X (compareOp .NotIn) r ∧ ∀ (G H : Hp) (vx vy : V) (Q : VK), Same G H → Bp X.K G H vx dx → Bp X.K G H vy dy →
      Wish X.mg E G H (fun d G' H' => ∀ v, Rp X.K G' v d → Q v H') (ninD dx dy) → r vx vy H Q := fun e => ⟨_, opr_false, fun _ _ _ _ _ _ _ _ w => by
    unfold ninD at w
    rw [e] at w
    exact w⟩
  cases dy with
  | lst ds =>
    by_cases h1 : (flatD dx && ds.all flatD) = true
    · refine ⟨_, op_notIn_seq, fun G H vx vy Q s bx by' w => ?_⟩
      unfold ninD inB at w
      dsimp only at w
      rw [if_pos h1] at w
      rw [Bool.and_eq_true] at h1
      obtain ⟨a, xs, rfl, ha, ra⟩ := by'.lst s
      have rx := bx.full s
      refine ⟨a, xs, rfl, .inl (SqL.of ha), flat_rp rx h1.1, flat_all ra h1.2, ?_⟩
      show Q (.bl (!inV vx xs)) H
      rw [in_any rx h1.1 ra h1.2]
      exact wok w s _ (.bl _)
    · by_cases h2 : (okD dx && okL ds) = true
      · refine ⟨_, op_notInD hu, fun G H vx vy Q s bx by' w => ?_⟩
        unfold ninD inB at w
        dsimp only at w
        rw [if_neg h1, if_pos h2] at w
        rw [Bool.and_eq_true] at h2
        have p2 := okL_lst h2.2
        have q2 := ok_dp (Same.refl H) p2 (by'.full s)
        have q3 := ok_shaped p2
        simp only [D.py] at q2 q3
        exact ⟨_, _, ok_dp (Same.refl H) h2.1 (bx.full s), q2, ok_shaped h2.1, q3, wok w s _ (.bl _)⟩
      · exact none_case (by unfold inB; dsimp only; rw [if_neg h1, if_neg h2])
  | tup ds =>
    by_cases h1 : (flatD dx && ds.all flatD) = true
    · refine ⟨_, op_notIn_seq, fun G H vx vy Q s bx by' w => ?_⟩
      unfold ninD inB at w
      dsimp only at w
      rw [if_pos h1] at w
      rw [Bool.and_eq_true] at h1
      obtain ⟨a, xs, rfl, ha, ra⟩ := by'.tup
      have rx := bx.full s
      refine ⟨a, xs, rfl, .inr (SqT.of (s _ _ ha)), flat_rp rx h1.1, flat_all ra h1.2, ?_⟩
      show Q (.bl (!inV vx xs)) H
      rw [in_any rx h1.1 ra h1.2]
      exact wok w s _ (.bl _)
    · exact none_case (by unfold inB; dsimp only; rw [if_neg h1])
  | dct ks =>
    cases dx with
    | int i =>
      refine ⟨_, op_dnotin hu1, fun G H vx vy Q s bx by' w => ?_⟩
      obtain ⟨a, rfl, ha⟩ := by'.dct s
      cases bx.int
      refine ⟨a, _, rfl, DGet.k (k := Sum.inl i) ha, ?_⟩
      rw [kt_of, valV_set, mem_inl]
      exact wok w s _ (.bl _)
    | _ => exact none_case rfl
  | dctT ks =>
    cases dx with
    | tup xs =>
      cases e : toInts xs with
      | none => exact none_case (by unfold inB; dsimp only; rw [e]; rfl)
      | some ns =>
        refine ⟨_, op_dnotin hu1, fun G H vx vy Q s bx by' w => ?_⟩
        obtain ⟨a, rfl, ha⟩ := by'.dctT s
        obtain ⟨b, vs, rfl, hb, rb⟩ := bx.tup
        have f1 := toInts_eq e
        subst f1
        have g1 := rb.ints
        subst g1
        refine ⟨a, _, rfl, DGet.t (k := ns.map fun k => (Sum.inl k : Key)) ha (by rw [kV_map]; exact s _ _ hb), ?_⟩
        rw [kt_of, valV_set, mem_inlT]
        unfold ninD inB at w
        dsimp only at w
        rw [e] at w
        exact wok w s _ (.bl _)
    | _ => exact none_case rfl
  | _ => exact none_case rfl
end
end Cn

namespace Cn
open PySem PySem.Spec PyProof.Rows L2

/-! ### expressions, as functions of the slots -/
def eV (i : Nat) : EF := fun env => match env[i]? with
  | some (.val d) => .ok d
  | _ => .stuck
def eO (i : Nat) : EF := fun env => match env[i]? with
  | some (.val d) => .ok d
  | some (.own d) => .ok d
  | _ => .stuck
def eC (d : D) : EF := fun _ => .ok d
def eOp (o : D → D → R D) (f g : EF) : EF := fun env => (f env).bind fun x => (g env).bind fun y => o x y
def eUn (o : D → R D) (f : EF) : EF := fun env => (f env).bind o
def eAnd (f g : EF) : EF := fun env => (f env).bind fun x => match x with
  | .bl true => g env
  | .bl false => .ok (.bl false)
  | _ => .stuck
def eOr (f g : EF) : EF := fun env => (f env).bind fun x => match x with
  | .bl false => g env
  | .bl true => .ok (.bl true)
  | _ => .stuck
def notD : D → R D
  | .bl b => .ok (.bl (!b))
  | _ => .stuck
def negD : D → R D
  | .int i => .ok (.int (-i))
  | _ => .stuck
def eChain (o o' : D → D → R D) (f g h : EF) : EF := fun env => (f env).bind fun x => (g env).bind fun y => (o x y).bind fun z => match z with
  | .bl true => (h env).bind fun w => o' y w
  | .bl false => .ok (.bl false)
  | _ => .stuck
def aNil : AF := fun _ => .ok []
def aCons (f : EF) (g : AF) : AF := fun env => (f env).bind fun x => (g env).bind fun xs => .ok (x :: xs)
def eLst (f : AF) : EF := fun env => (f env).bind fun ds => .ok (.lst ds)
def eTup (f : AF) : EF := fun env => (f env).bind fun ds => .ok (.tup ds)
def eCall (fn : List D → R D) (f : AF) : EF := fun env => (f env).bind fn

section
variable {X : Cx} {E : XK} {e a b c : Expr} {f g h : EF} {pos : Pos}
theorem se_var (i : Nat) {x : Str} {p : Pos} (hv : PE X (.Name x p) (tVar i)) : SE X E (.Name x p) (eV i) := by
  intro G0 H0 env σ G H Q r w
  unfold eV at w
  split at w
  · rename_i d hd
    obtain ⟨v, h1, h2⟩ := r.val i d hd
    exact ⟨_, hv, v, h1, w G H (Ext.refl r.sub) v h2⟩
  · exact (show False from w).elim
theorem sb_own (i : Nat) {x : Str} {p : Pos} (hv : PE X (.Name x p) (tVar i)) : SB X E (.Name x p) (eO i) := by
  intro G0 H0 env σ G H Q r w
  unfold eO at w
  split at w
  · rename_i d hd
    obtain ⟨v, h1, h2⟩ := r.val i d hd
    exact ⟨_, hv, v, h1, w G H (Ext.refl r.sub) v (.inl h2)⟩
  · rename_i d hd
    obtain ⟨p, o, h1, h2, h3, h4, h5⟩ := r.own i d hd
    exact ⟨_, hv, .ref p, h1, w G H (Ext.refl r.sub) _ (.inr ⟨p, o, rfl, h3, h2, h5⟩)⟩
  · exact (show False from w).elim
theorem se_c {v : V} {d : D} (hv : PE X e (tC v)) (hr : ∀ G, Rp X.K G v d) : SE X E e (eC d) := by
  intro G0 H0 env σ G H Q r w
  exact ⟨_, hv, w G H (Ext.refl r.sub) v (hr G)⟩
theorem se_int {i : Int} {j p} : SE X E (.Constant (.int i) j p) (eC (.int i)) := se_c pe_int fun _ => .int i
theorem se_bl {i : Bool} {j p} : SE X E (.Constant (.bool i) j p) (eC (.bl i)) := se_c pe_bl fun _ => .bl i
theorem se_str {i : Str} {j p} : SE X E (.Constant (.str i) j p) (eC (.str i)) := se_c pe_str fun _ => .str i
theorem se_non {j p} : SE X E (.Constant .none j p) (eC .non) := se_c pe_non fun _ => .non
theorem se_globI {x : Str} {i : Int} {p : Pos} (hg : Gl X x) (hm : ∃ t, X.mg x = some (.int i t)) (hd : (x == ("__debug__" : Str)) = false := by decide) : SE X E (.Name x p) (eC (.int i)) := by
  obtain ⟨t, hm⟩ := hm
  exact se_c (v := V.int i) (pe_glob hg hm ⟨t, rfl⟩ hd) fun _ => .int i

/-- both, then the operation -/
theorem bin_run {P : D → D → Hp → Hp → V → V → Prop} {G0 H0 : Hp} {env : En} {σ : L2.St} {G H : Hp} {R2' : V → V → Hp → Prop} (ha : SB X E a f) (hb : SB X E b g) (r : Rep X.K G0 H0 env σ G H)
    (w : Wish X.mg E G H (fun dx G1 H1 => Wish X.mg E G1 H1 (fun dy G2 H2 => ∀ vx vy, Bp X.K G2 H2 vx dx → Bp X.K G2 H2 vy dy → R2' vx vy H2) (g env)) (f env)) :
    Re X a σ H (fun x H1 => Re X b σ H1 fun y H2 => R2' x y H2) := by
  refine ha G0 H0 env σ G H _ r (w.imp fun dx G1 H1 e1 q x bx => ?_)
  refine hb G0 H0 env σ G1 H1 _ (r.grow e1) (q.imp fun dy G2 H2 e2 q2 y by' => ?_)
  exact q2 x y (bx.ext e1.sub e2) by'
theorem os_run {fo : Value → Value → Sem Value} {o : D → D → R D} {G0 H0 : Hp} {env : En} {σ : L2.St} {G H : Hp} {Q : VK} (ho : OS X E fo o) (ha : SB X E a f) (hb : SB X E b g) (r : Rep X.K G0 H0 env σ G H)
    (w : Wish X.mg E G H (fun d G' H' => ∀ v, Rp X.K G' v d → Q v H') (eOp o f g env)) : ∃ r2 : L2.R2, OpR X fo r2 ∧ tOp r2 (Re X a) (Re X b) σ H Q := by
  unfold eOp at w
  have w1 := Wish.bind w
  cases hf : f env with
  | stuck => rw [hf] at w1; exact (show False from w1).elim
  | ex c' =>
    refine ⟨_, opr_false, ?_⟩
    refine bin_run (P := fun _ _ _ _ _ _ => True) ha hb r ?_
    rw [hf] at w1 ⊢
    exact w1
  | ok dx =>
    cases hg : g env with
    | stuck =>
      rw [hf] at w1
      have w2 := w1 G H (Ext.refl r.sub)
      have w3 := Wish.bind w2
      rw [hg] at w3
      exact (show False from w3).elim
    | ex c' =>
      refine ⟨_, opr_false, ?_⟩
      refine bin_run (P := fun _ _ _ _ _ _ => True) ha hb r ?_
      rw [hf] at w1 ⊢
      intro G1 H1 e1
      have w3 := Wish.bind (w1 G1 H1 e1)
      rw [hg] at w3 ⊢
      exact w3
    | ok dy =>
      obtain ⟨r2, h1, h2⟩ := ho dx dy
      refine ⟨r2, h1, ?_⟩
      refine bin_run (P := fun _ _ _ _ _ _ => True) ha hb r ?_
      rw [hf] at w1 ⊢
      intro G1 H1 e1
      have w3 := Wish.bind (w1 G1 H1 e1)
      rw [hg] at w3 ⊢
      intro G2 H2 e2 vx vy bx by'
      exact h2 G2 H2 vx vy Q e2.sub bx by' (w3 G2 H2 e2)
theorem se_bin {op : Operator} {o : D → D → R D} (ho : OS X E (binaryOp op) o) (ha : SB X E a f) (hb : SB X E b g) : SE X E (.BinOp a op b pos) (eOp o f g) := by
  intro G0 H0 env σ G H Q r w
  obtain ⟨r2, h1, h2⟩ := os_run ho ha hb r w
  exact ⟨_, pe_op h1 re_pe re_pe, h2⟩
theorem se_cmp {op : CmpOp} {o : D → D → R D} (ho : OS X E (compareOp op) o) (ha : SB X E a f) (hb : SB X E b g) (hm : behindInMarks op b = false := by rfl) : SE X E (.Compare a [op] [b] pos) (eOp o f g) := by
  intro G0 H0 env σ G H Q r w
  obtain ⟨r2, h1, h2⟩ := os_run ho ha hb r w
  exact ⟨_, pe_cmpR h1 re_pe re_pe hm, h2⟩
theorem wish_bl {G H : Hp} {Q : Bool → Hp → Prop} {r : R D} (w : Wish X.mg E G H (fun d _ H' => ∃ b, d = .bl b ∧ Q b H') r) : Wish X.mg E G H (fun d G' H' => ∀ v, Rp X.K G' v d → ∃ k, v = .bl k ∧ Q k H') r :=
  w.imp fun d G' H' _ ⟨b, e, q⟩ v hv => by
    subst e
    cases hv
    exact ⟨b, rfl, q⟩
theorem st_cmp {op : CmpOp} {o : D → D → R D} (ho : OS X E (compareOp op) o) (ha : SB X E a f) (hb : SB X E b g) (hm : behindInMarks op b = false := by rfl) : ST X E (.Compare a [op] [b] pos) (eOp o f g) := by
  intro G0 H0 env σ G H Q r w
  obtain ⟨r2, h1, h2⟩ := os_run (Q := fun x H' => ∃ k, x = .bl k ∧ Q k H') ho ha hb r (wish_bl w)
  exact ⟨_, pt_cmpR h1 re_pe re_pe hm, h2⟩
theorem st_val (hv : SE X E e f) (he : ∀ whole, isTrue e X.env whole = (do let v ← whole; standAt e.pos; holding [v] (truthy v)) := by intro _; rfl) : ST X E e f := by
  intro G0 H0 env σ G H Q r w
  obtain ⟨t, h1, h2⟩ := hv G0 H0 env σ G H (fun x H' => ∃ k, x = .bl k ∧ Q k H') r (wish_bl w)
  exact ⟨_, pt_val h1 he, h2⟩

/-- a test whatever its whole is -/
def Rw (X : Cx) (e : Expr) : TT := fun σ H Q => ∃ t : TT, PW X e t ∧ t σ H Q
theorem rw_pw : PW X e (Rw X e) := ⟨fun wh pins s σ H Q I ⟨t, h, q⟩ => h.run wh pins s σ H Q I q⟩
def SW (X : Cx) (E : XK) (e : Expr) (f : EF) : Prop := ∀ (G0 H0 : Hp) (env : En) (σ : L2.St) (G H : Hp) (Q : Bool → Hp → Prop), Rep X.K G0 H0 env σ G H →
  Wish X.mg E G H (fun d _ H' => ∃ b, d = .bl b ∧ Q b H') (f env) → Rw X e σ H Q
theorem st_w (h : SW X E e f) : ST X E e f := fun G0 H0 env σ G H Q r w =>
  let ⟨_, h1, h2⟩ := h G0 H0 env σ G H Q r w
  ⟨_, h1.pt, h2⟩
theorem sw_and1 (ha : ST X E a f) : SW X E (.BoolOp .And [a] pos) f := fun G0 H0 env σ G H Q r w =>
  let ⟨_, h1, h2⟩ := ha G0 H0 env σ G H Q r w
  ⟨_, pw_and1 h1, h2⟩
theorem sw_or1 (ha : ST X E a f) : SW X E (.BoolOp .Or [a] pos) f := fun G0 H0 env σ G H Q r w =>
  let ⟨_, h1, h2⟩ := ha G0 H0 env σ G H Q r w
  ⟨_, pw_or1 h1, h2⟩
variable {rest : List Expr}
theorem sw_and (ha : ST X E a f) (hb : SW X E (.BoolOp .And (b :: rest) pos) g) : SW X E (.BoolOp .And (a :: b :: rest) pos) (eAnd f g) := by
  intro G0 H0 env σ G H Q r w
  refine ⟨_, pw_and rt_pt rw_pw, ?_⟩
  refine ha G0 H0 env σ G H _ r ?_
  refine (Wish.bind w).imp fun d G1 H1 e1 q => ?_
  cases d <;> first | exact (show False from q).elim | skip
  rename_i k
  refine ⟨k, rfl, ?_⟩
  cases k with
  | true => exact hb G0 H0 env σ G1 H1 Q (r.grow e1) q
  | false =>
    obtain ⟨b', e', q'⟩ := q G1 H1 (Ext.refl e1.sub)
    cases e'
    exact q'
theorem sw_or (ha : ST X E a f) (hb : SW X E (.BoolOp .Or (b :: rest) pos) g) : SW X E (.BoolOp .Or (a :: b :: rest) pos) (eOr f g) := by
  intro G0 H0 env σ G H Q r w
  refine ⟨_, pw_or rt_pt rw_pw, ?_⟩
  refine ha G0 H0 env σ G H _ r ?_
  refine (Wish.bind w).imp fun d G1 H1 e1 q => ?_
  cases d <;> first | exact (show False from q).elim | skip
  rename_i k
  refine ⟨k, rfl, ?_⟩
  cases k with
  | false => exact hb G0 H0 env σ G1 H1 Q (r.grow e1) q
  | true =>
    obtain ⟨b', e', q'⟩ := q G1 H1 (Ext.refl e1.sub)
    cases e'
    exact q'
theorem st_not (ha : ST X E a f) : ST X E (.UnaryOp .Not a pos) (eUn notD f) := by
  intro G0 H0 env σ G H Q r w
  refine ⟨_, pt_not rt_pt, ?_⟩
  refine ha G0 H0 env σ G H _ r ?_
  refine (Wish.bind w).imp fun d G1 H1 e1 q => ?_
  cases d <;> first | exact (show False from q).elim | skip
  rename_i k
  obtain ⟨b', e', q'⟩ := q G1 H1 (Ext.refl e1.sub)
  cases e'
  exact ⟨k, rfl, q'⟩
theorem se_not (ha : SE X E a f) : SE X E (.UnaryOp .Not a pos) (eUn notD f) := by
  intro G0 H0 env σ G H Q r w
  refine ⟨_, pe_not re_pe, ?_⟩
  refine ha G0 H0 env σ G H _ r ?_
  refine (Wish.bind w).imp fun d G1 H1 e1 q v hv => ?_
  cases d <;> first | exact (show False from q).elim | skip
  rename_i k
  cases hv
  exact ⟨k, rfl, q G1 H1 (Ext.refl e1.sub) _ (.bl _)⟩
theorem se_neg (ha : SE X E a f) : SE X E (.UnaryOp .USub a pos) (eUn negD f) := by
  intro G0 H0 env σ G H Q r w
  refine ⟨_, pe_un un_neg re_pe, ?_⟩
  refine ha G0 H0 env σ G H _ r ?_
  refine (Wish.bind w).imp fun d G1 H1 e1 q v hv => ?_
  cases d <;> first | exact (show False from q).elim | skip
  rename_i k
  cases hv
  exact ⟨k, rfl, q G1 H1 (Ext.refl e1.sub) _ (.int _)⟩
theorem se_one {op} (ha : SE X E a f) : SE X E (.BoolOp op [a] pos) f := fun G0 H0 env σ G H Q r w =>
  let ⟨_, h1, h2⟩ := ha G0 H0 env σ G H Q r w
  ⟨_, pe_one h1, h2⟩
theorem se_and (ha : SE X E a f) (hb : SE X E (.BoolOp .And (b :: rest) pos) g) : SE X E (.BoolOp .And (a :: b :: rest) pos) (eAnd f g) := by
  intro G0 H0 env σ G H Q r w
  refine ⟨_, pe_and re_pe re_pe, ?_⟩
  refine ha G0 H0 env σ G H _ r ?_
  refine (Wish.bind w).imp fun d G1 H1 e1 q v hv => ?_
  cases d <;> first | exact (show False from q).elim | skip
  rename_i k
  cases hv
  refine ⟨k, rfl, ?_⟩
  cases k with
  | true => exact hb G0 H0 env σ G1 H1 Q (r.grow e1) q
  | false => exact q G1 H1 (Ext.refl e1.sub) _ (.bl _)
theorem se_or (ha : SE X E a f) (hb : SE X E (.BoolOp .Or (b :: rest) pos) g) : SE X E (.BoolOp .Or (a :: b :: rest) pos) (eOr f g) := by
  intro G0 H0 env σ G H Q r w
  refine ⟨_, pe_or re_pe re_pe, ?_⟩
  refine ha G0 H0 env σ G H _ r ?_
  refine (Wish.bind w).imp fun d G1 H1 e1 q v hv => ?_
  cases d <;> first | exact (show False from q).elim | skip
  rename_i k
  cases hv
  refine ⟨k, rfl, ?_⟩
  cases k with
  | false => exact hb G0 H0 env σ G1 H1 Q (r.grow e1) q
  | true => exact q G1 H1 (Ext.refl e1.sub) _ (.bl _)

/-! argument lists, displays -/
def SAn (X : Cx) (E : XK) (es : List Expr) (f : AF) : Prop := ∀ (G0 H0 : Hp) (env : En) (σ : L2.St) (G H : Hp) (Q : List V → Hp → Prop), Rep X.K G0 H0 env σ G H →
  Wish X.mg E G H (fun ds G' H' => ∀ vs, RpAll X.K G' vs ds → vs.length = es.length → Q vs H') (f env) → Ra X es σ H Q
def SAbn (X : Cx) (E : XK) (es : List Expr) (f : AF) : Prop := ∀ (G0 H0 : Hp) (env : En) (σ : L2.St) (G H : Hp) (Q : List V → Hp → Prop), Rep X.K G0 H0 env σ G H →
  Wish X.mg E G H (fun ds G' H' => ∀ vs, BpAll X.K G' H' vs ds → vs.length = es.length → Q vs H') (f env) → Ra X es σ H Q
theorem BpAll.ext {K : PySem.W.Frag} {G H G' H' : Hp} (s : Same G H) (e : Ext G H G' H') : ∀ {vs : List V} {ds : List D}, BpAll K G H vs ds → BpAll K G' H' vs ds
  | _, _, .nil => .nil
  | _, _, .cons h r => .cons (h.ext s e) (BpAll.ext s e r)
theorem sa_nil : SAn X E [] aNil := fun G0 H0 env σ G H Q r w => ⟨_, pa_nil, w G H (Ext.refl r.sub) [] .nil rfl⟩
theorem sa_cons {es : List Expr} {fs : AF} (ha : SE X E a f) (hr : SAn X E es fs) (hs : starEach (a :: es) X.env = (false, eval a X.env) :: starEach es X.env := by rfl) : SAn X E (a :: es) (aCons f fs) := by
  intro G0 H0 env σ G H Q r w
  refine ⟨_, pa_cons re_pe ra_pa hs, ?_⟩
  refine ha G0 H0 env σ G H _ r ((Wish.bind w).imp fun d G1 H1 e1 q v hv => ?_)
  refine hr G0 H0 env σ G1 H1 _ (r.grow e1) ((Wish.bind q).imp fun ds G2 H2 e2 q2 vs hvs hl => ?_)
  exact q2 G2 H2 (Ext.refl e2.sub) (v :: vs) (.cons (hv.mono (e2.same e1.sub)) hvs) (by rw [List.length_cons, List.length_cons, hl])
theorem sab_nil : SAbn X E [] aNil := fun G0 H0 env σ G H Q r w => ⟨_, pa_nil, w G H (Ext.refl r.sub) [] .nil rfl⟩
theorem sab_cons {es : List Expr} {fs : AF} (ha : SB X E a f) (hr : SAbn X E es fs) (hs : starEach (a :: es) X.env = (false, eval a X.env) :: starEach es X.env := by rfl) : SAbn X E (a :: es) (aCons f fs) := by
  intro G0 H0 env σ G H Q r w
  refine ⟨_, pa_cons re_pe ra_pa hs, ?_⟩
  refine ha G0 H0 env σ G H _ r ((Wish.bind w).imp fun d G1 H1 e1 q v hv => ?_)
  refine hr G0 H0 env σ G1 H1 _ (r.grow e1) ((Wish.bind q).imp fun ds G2 H2 e2 q2 vs hvs hl => ?_)
  exact q2 G2 H2 (Ext.refl e2.sub) (v :: vs) (.cons (hv.ext e1.sub e2) hvs) (by rw [List.length_cons, List.length_cons, hl])
theorem own_new {K : PySem.W.Frag} {G H : Hp} {p : Addr} {xs : List V} {ds : List D} (s : Same G H) (hp : H p = none) (r : RpAll K G xs ds) : OwnR K G (.lst xs) (.lst ds) := ⟨xs, rfl, r⟩
theorem small_sz {n : Nat} (h : n ≤ 1000) : n ≤ sizeLine := Nat.le_of_lt (small1000 h)
theorem sf_lst {es : List Expr} {fs : AF} (ha : SAn X E es fs) (hl : es.length ≤ 1000 := by decide) : SF X E (.List es pos) (eLst fs) := by
  intro G0 H0 env σ G H Q r w
  refine ⟨_, pe_lst ra_pa, ?_⟩
  refine ha G0 H0 env σ G H _ r ((Wish.bind w).imp fun ds G1 H1 e1 q vs hvs hn => ⟨small_sz (by omega), fun p hp => ?_⟩)
  have h0 : H p = none := e1.hh.free hp
  exact q G1 (upd H1 p (.lst vs)) (Ext.newOwn e1.sub hp) p (.lst vs) h0 upd_same (e1.sub.free hp) ⟨vs, rfl, hvs⟩
theorem se_tup {es : List Expr} {fs : AF} {x1} (ha : SAn X E es fs) (hl : es.length ≤ 1000 := by decide) : SE X E (.Tuple es x1 pos) (eTup fs) := by
  intro G0 H0 env σ G H Q r w
  refine ⟨_, pe_tup ra_pa, ?_⟩
  refine ha G0 H0 env σ G H _ r ((Wish.bind w).imp fun ds G1 H1 e1 q vs hvs hn => ⟨small_sz (by omega), fun p hp => ?_⟩)
  have sg : Same G1 (upd G1 p (.tup vs)) := Same.upd (e1.sub.free hp)
  exact q _ _ (Ext.new e1.sub hp) (.ref p) (.tup upd_same (hvs.mono sg))
end
end Cn

namespace Cn
open PySem PySem.Spec PyProof.Rows L2

/-! ### index -/
def ixD : D → D → R D
  | .lst ds, .int i => match atI ds i with
    | some d => .ok d
    | none => .stuck
  | .tup ds, .int i => match atI ds i with
    | some d => .ok d
    | none => .stuck
  | .scr ns, .int i => match atI ns i with
    | some n => .ok (.int n)
    | none => .stuck
  | .str z, .int i => if z.length ≤ LIM then (match atI z.cps.toList i with
    | some c => .ok (.str ⟨#[c]⟩)
    | none => .stuck) else .stuck
  | _, _ => .stuck
def IS (X : Cx) (E : XK) (o : D → D → R D) : Prop :=
  ∀ dx dy, ∃ r : L2.R2, IxR X r ∧ ∀ (G H : Hp) (vx vy : V) (Q : VK), Same G H → Bp X.K G H vx dx → Bp X.K G H vy dy →
    Wish X.mg E G H (fun d G' H' => ∀ v, Rp X.K G' v d → Q v H') (o dx dy) → r vx vy H Q
section
variable {X : Cx} {E : XK} {e a b c : Expr} {f g h : EF} {pos : Pos}
theorem ixr_false : IxR X (fun _ _ _ _ => False) := fun _ _ _ _ _ _ _ _ _ _ _ _ _ _ h _ => h.elim
theorem atI_rp {K : PySem.W.Frag} {G : Hp} {xs : List V} {ds : List D} {i : Int} {d : D} (r : RpAll K G xs ds) (h : atI ds i = some d) : ∃ v, atI xs i = some v ∧ Rp K G v d := by
  unfold atI at h ⊢
  rw [r.length]
  cases e : ixN ds.length i with
  | none => rw [e] at h; cases h
  | some j =>
    rw [e] at h
    obtain ⟨v, h1, h2⟩ := r.get (i := j) (d := d) h
    exact ⟨v, h1, h2⟩
theorem is_ix : IS X E ixD := by
  intro dx dy
  cases dx <;> cases dy <;> first
    | exact ⟨_, ixr_false, fun _ _ _ _ _ _ _ _ w => (show False from w).elim⟩
    | skip
  · rename_i z i
    refine ⟨_, ix_str, fun G H vx vy Q s bx by' w => ?_⟩
    cases bx.str; cases by'.int
    by_cases hz : z.length ≤ LIM
    · cases e : atI z.cps.toList i with
      | none => simp only [ixD, e, if_pos hz] at w; exact (show False from w).elim
      | some c =>
        simp only [ixD, e, if_pos hz] at w
        exact ⟨z, i, c, rfl, rfl, lim_le hz, e, wok w s _ (.str _)⟩
    · simp only [ixD, if_neg hz] at w
      exact (show False from w).elim
  · rename_i ds i
    refine ⟨_, ix_list, fun G H vx vy Q s bx by' w => ?_⟩
    cases by'.int
    obtain ⟨p, xs, rfl, hp, hr⟩ := bx.lst s
    cases e : atI ds i with
    | none => simp only [ixD, e] at w; exact (show False from w).elim
    | some d =>
      simp only [ixD, e] at w
      obtain ⟨v, h1, h2⟩ := atI_rp hr e
      exact ⟨p, xs, i, v, rfl, rfl, SqL.of hp, h1, wok w s v h2⟩
  · rename_i ds i
    refine ⟨_, ix_tup, fun G H vx vy Q s bx by' w => ?_⟩
    cases by'.int
    obtain ⟨p, xs, rfl, hp, hr⟩ := bx.tup
    cases e : atI ds i with
    | none => simp only [ixD, e] at w; exact (show False from w).elim
    | some d =>
      simp only [ixD, e] at w
      obtain ⟨v, h1, h2⟩ := atI_rp hr e
      exact ⟨p, xs, i, v, rfl, rfl, SqT.of (s _ _ hp), h1, wok w s v h2⟩
  · rename_i ns i
    refine ⟨_, ix_list, fun G H vx vy Q s bx by' w => ?_⟩
    cases by'.int
    obtain ⟨p, rfl, hp⟩ := bx.scr
    cases e : atI ns i with
    | none => simp only [ixD, e] at w; exact (show False from w).elim
    | some d =>
      simp only [ixD, e] at w
      refine ⟨p, ns.map V.int, i, .int d, rfl, rfl, s.seq hp, ?_, wok w s _ (.int _)⟩
      unfold atI at e ⊢
      rw [List.length_map]
      cases q : ixN ns.length i with
      | none => rw [q] at e; cases e
      | some j =>
        rw [q] at e
        show (ns.map V.int)[j]? = _
        rw [List.getElem?_map, show ns[j]? = some d from e]
        rfl
theorem is_run {o : D → D → R D} {G0 H0 : Hp} {env : En} {σ : L2.St} {G H : Hp} {Q : VK} (ho : IS X E o) (ha : SB X E a f) (hb : SB X E b g) (r : Rep X.K G0 H0 env σ G H)
    (w : Wish X.mg E G H (fun d G' H' => ∀ v, Rp X.K G' v d → Q v H') (eOp o f g env)) : ∃ r2 : L2.R2, IxR X r2 ∧ tOp r2 (Re X a) (Re X b) σ H Q := by
  unfold eOp at w
  have w1 := Wish.bind w
  cases hf : f env with
  | stuck => rw [hf] at w1; exact (show False from w1).elim
  | ex c' =>
    refine ⟨_, ixr_false, ?_⟩
    refine bin_run (P := fun _ _ _ _ _ _ => True) ha hb r ?_
    rw [hf] at w1 ⊢
    exact w1
  | ok dx =>
    cases hg : g env with
    | stuck =>
      rw [hf] at w1
      have w3 := Wish.bind (w1 G H (Ext.refl r.sub))
      rw [hg] at w3
      exact (show False from w3).elim
    | ex c' =>
      refine ⟨_, ixr_false, ?_⟩
      refine bin_run (P := fun _ _ _ _ _ _ => True) ha hb r ?_
      rw [hf] at w1 ⊢
      intro G1 H1 e1
      have w3 := Wish.bind (w1 G1 H1 e1)
      rw [hg] at w3 ⊢
      exact w3
    | ok dy =>
      obtain ⟨r2, h1, h2⟩ := ho dx dy
      refine ⟨r2, h1, ?_⟩
      refine bin_run (P := fun _ _ _ _ _ _ => True) ha hb r ?_
      rw [hf] at w1 ⊢
      intro G1 H1 e1
      have w3 := Wish.bind (w1 G1 H1 e1)
      rw [hg] at w3 ⊢
      intro G2 H2 e2 vx vy bx by'
      exact h2 G2 H2 vx vy Q e2.sub bx by' (w3 G2 H2 e2)
theorem se_ix (ha : SB X E a f) (hb : SB X E b g) (hs : PlainIx b := by exact fun _ _ => rfl) : SE X E (.Subscript a b pos) (eOp ixD f g) := by
  intro G0 H0 env σ G H Q r w
  obtain ⟨r2, h1, h2⟩ := is_run is_ix ha hb r w
  exact ⟨_, pe_ix h1 re_pe re_pe hs, h2⟩

/-! ### slices -/
abbrev OF := En → R (Option Int)
def oNone : OF := fun _ => .ok none
def oSome (f : EF) : OF := fun env => (f env).bind fun d => match d with
  | .int i => .ok (some i)
  | _ => .stuck
def Ro (X : Cx) (e : Option Expr) : TO := fun σ H Q => ∃ t : TO, PO X e t ∧ t σ H Q
theorem ro_po {e : Option Expr} : PO X e (Ro X e) := ⟨fun pins s σ H Q I ⟨t, h, q⟩ => h.run pins s σ H Q I q⟩
def SO (X : Cx) (E : XK) (e : Option Expr) (f : OF) : Prop := ∀ (G0 H0 : Hp) (env : En) (σ : L2.St) (G H : Hp) (Q : Option Int → Hp → Prop), Rep X.K G0 H0 env σ G H →
  Wish X.mg E G H (fun o _ H' => Q o H') (f env) → Ro X e σ H Q
theorem so_none : SO X E none oNone := fun G0 H0 env σ G H Q r w => ⟨_, po_none, w G H (Ext.refl r.sub)⟩
theorem so_some (ha : SE X E a f) : SO X E (some a) (oSome f) := by
  intro G0 H0 env σ G H Q r w
  refine ⟨_, po_some re_pe, ?_⟩
  refine ha G0 H0 env σ G H _ r ((Wish.bind w).imp fun d G1 H1 e1 q v hv => ?_)
  cases d <;> first | exact (show False from q).elim | skip
  rename_i i
  cases hv
  exact ⟨i, rfl, q G1 H1 (Ext.refl e1.sub)⟩
def cutL {α : Type} (xs : List α) (lo hi : Option Int) : List α := (xs.drop (HT.sIx xs.length 0 lo)).take (HT.sIx xs.length xs.length hi - HT.sIx xs.length 0 lo)
def eSl (f : EF) (lo hi : OF) : EF := fun env => (f env).bind fun x => (lo env).bind fun l => (hi env).bind fun u => match x with
  | .lst ds => .ok (.lst (cutL ds l u))
  | _ => .stuck
def eSlS (f : EF) (lo hi : OF) : EF := fun env => (f env).bind fun x => (lo env).bind fun l => (hi env).bind fun u => match x with
  | .str z => if z.length ≤ LIM then .ok (.str (cutS z l u)) else .stuck
  | _ => .stuck
theorem cut_rp {K : PySem.W.Frag} {G : Hp} {xs : List V} {ds : List D} (l u : Option Int) (r : RpAll K G xs ds) : RpAll K G (cutV xs l u) (cutL ds l u) := by
  unfold cutV cutL
  rw [r.length]
  exact (r.drop _).take _
theorem sf_sl {lo hi : Option Expr} {fl fu : OF} {p2 : Pos} (ha : SB X E a f) (hl : SO X E lo fl) (hu : SO X E hi fu) : SF X E (.Subscript a (.Slice lo hi none p2) pos) (eSl f fl fu) := by
  intro G0 H0 env σ G H Q r w
  refine ⟨_, pe_slice sl_list re_pe ro_po ro_po, ?_⟩
  refine ha G0 H0 env σ G H _ r ((Wish.bind w).imp fun x G1 H1 e1 q v hv => ?_)
  refine hl G0 H0 env σ G1 H1 _ (r.grow e1) ((Wish.bind q).imp fun l G2 H2 e2 q2 => ?_)
  refine hu G0 H0 env σ G2 H2 _ ((r.grow e1).grow e2) ((Wish.bind q2).imp fun u G3 H3 e3 q3 => ?_)
  cases x <;> first | exact (show False from q3).elim | skip
  rename_i ds
  have hv3 := (hv.ext e1.sub e2).ext e2.sub e3
  obtain ⟨p, xs, rfl, hp, hr⟩ := hv3.lst e3.sub
  refine ⟨p, xs, rfl, SqL.of hp, fun t ht => ?_⟩
  have h0 : H t = none := ((e1.trans e2).trans e3).hh.free ht
  exact q3 G3 _ (Ext.newOwn e3.sub ht) t _ h0 upd_same (e3.sub.free ht) ⟨_, rfl, cut_rp l u hr⟩
theorem se_slS {lo hi : Option Expr} {fl fu : OF} {p2 : Pos} (ha : SE X E a f) (hl : SO X E lo fl) (hu : SO X E hi fu) : SE X E (.Subscript a (.Slice lo hi none p2) pos) (eSlS f fl fu) := by
  intro G0 H0 env σ G H Q r w
  refine ⟨_, pe_slice sl_str re_pe ro_po ro_po, ?_⟩
  refine ha G0 H0 env σ G H _ r ((Wish.bind w).imp fun x G1 H1 e1 q v hv => ?_)
  refine hl G0 H0 env σ G1 H1 _ (r.grow e1) ((Wish.bind q).imp fun l G2 H2 e2 q2 => ?_)
  refine hu G0 H0 env σ G2 H2 _ ((r.grow e1).grow e2) ((Wish.bind q2).imp fun u G3 H3 e3 q3 => ?_)
  cases x <;> first | exact (show False from q3).elim | skip
  rename_i z
  cases hv
  obtain ⟨hz, q4⟩ := wite (c := z.length ≤ LIM) q3
  exact ⟨z, rfl, lim_le hz, q4 G3 H3 (Ext.refl e3.sub) _ (.str _)⟩

/-! ### a + b of lists as a new one -/
def catD : D → D → R D
  | .lst i, .lst j => if i.length + j.length ≤ LIM then .ok (.lst (i ++ j)) else .stuck
  | _, _ => .stuck
theorem sf_cat (ha : SB X E a f) (hb : SB X E b g) : SF X E (.BinOp a .Add b pos) (eOp catD f g) := by
  intro G0 H0 env σ G H Q r w
  refine ⟨_, pe_op op_cat re_pe re_pe, ?_⟩
  refine bin_run (P := fun _ _ _ _ _ _ => True) ha hb r ?_
  refine (Wish.bind w).imp fun dx G1 H1 e1 q => ?_
  refine (Wish.bind q).imp fun dy G2 H2 e2 q2 vx vy bx by' => ?_
  cases dx <;> first | exact (show False from q2).elim | skip
  cases dy <;> first | exact (show False from q2).elim | skip
  rename_i i j
  obtain ⟨p, xs, rfl, hp, hr⟩ := bx.lst e2.sub
  obtain ⟨p', ys, rfl, hp', hr'⟩ := by'.lst e2.sub
  obtain ⟨hl, q3⟩ := wite (c := i.length + j.length ≤ LIM) q2
  refine ⟨p, p', xs, ys, rfl, rfl, hp, hp', lim_le (by rw [hr.length, hr'.length]; exact hl), fun t ht => ?_⟩
  exact q3 G2 _ (Ext.newOwn e2.sub ht) t _ ((e1.trans e2).hh.free ht) upd_same (e2.sub.free ht) ⟨_, rfl, hr.append hr'⟩

/-! ### dicts -/
theorem sf_dict : SF X E (.Dict [] [] pos) (eC (.dct [])) := fun G0 H0 env σ G H Q r w => ⟨_, pe_dnewK, fun p hp =>
  w G _ (Ext.newOwn r.sub hp) p _ hp upd_same (r.sub.free hp) rfl⟩
theorem sf_dictT : SF X E (.Dict [] [] pos) (eC (.dctT [])) := fun G0 H0 env σ G H Q r w => ⟨_, pe_dnewT, fun p hp =>
  w G _ (Ext.newOwn r.sub hp) p _ hp upd_same (r.sub.free hp) rfl⟩
def eDict1 (f : EF) : EF := fun env => (f env).bind fun d => match d with
  | .int i => .ok (.dct [i])
  | _ => .stuck
theorem sf_dict1 {j : Nat} {p' : Pos} (ha : SE X E a f) : SF X E (.Dict [some a] [.Constant (.bool true) j p'] pos) (eDict1 f) := by
  intro G0 H0 env σ G H Q r w
  refine ⟨_, pe_disp (pps_cons re_pe pe_bl pps_nil) (by rfl) (by rfl) (fun z => by cases z) (by show 1 ≤ 15; decide), fun p hp => ?_⟩
  have e0 : Ext G H G (upd H p (.dK [])) := Ext.newOwn r.sub hp
  have w1 := Wish.bind w
  refine ha G0 H0 env σ G _ _ (r.grow e0) ?_
  cases hf : f env with
  | stuck => rw [hf] at w1; exact w1
  | ex c => rw [hf] at w1; exact fun G' H' C e' hc => w1 G' H' C (e0.trans e') hc
  | ok d =>
    rw [hf] at w1
    cases d <;> first | exact (show False from w1 G H (Ext.refl r.sub)).elim | skip
    rename_i i
    intro G1 H1 e1 v hv
    cases hv
    have hp1 : H1 p = some (.dK []) := e1.hh _ _ upd_same
    have gp1 : G1 p = none := e1.out upd_same (fun _ z => nomatch z) (r.sub.free hp)
    refine ⟨hp1, [((Sum.inl i : Key), V.bl true)], rfl, by show 1 ≤ 15; decide, ?_⟩
    have w2 := w1 G H (Ext.refl r.sub)
    exact w2 G1 _ ⟨fun x u z => by rw [upd_ne (ne_of_none z gp1)]; exact e1.sub x u z, fun x u z => by
      have ne : x ≠ p := ne_of_none z hp
      rw [upd_ne ne]
      exact e1.hh x u (by rw [upd_ne ne]; exact z), fun x hn hx => (e0.trans e1).gg x hn hx, (e0.trans e1).sm⟩ p _ hp upd_same gp1 rfl
end
end Cn

namespace Cn
open PySem PySem.Spec PyProof.Rows L2

/-! ### built-ins of one value -/
def CS (X : Cx) (E : XK) (fv : Value) (o : D → R D) : Prop :=
  ∀ dx, ∃ r : List V → Hp → VK → Prop, CallR X fv r ∧ ∀ (G H : Hp) (vx : V) (Q : VK), Same G H → Bp X.K G H vx dx →
    Wish X.mg E G H (fun d G' H' => ∀ v, Rp X.K G' v d → Q v H') (o dx) → r [vx] H Q
def lenD : D → R D
  | .lst ds => .ok (.int ds.length)
  | .tup ds => .ok (.int ds.length)
  | .scr ns => .ok (.int ns.length)
  | .str z => if z.length ≤ LIM then .ok (.int z.length) else .stuck
  | _ => .stuck
def intD : D → R D
  | .int i => .ok (.int i)
  | .bl k => .ok (.int (if k then 1 else 0))
  | _ => .stuck
def maxI : Int → List Int → Int
  | m, [] => m
  | m, n :: r => maxI (if n > m then n else m) r
def maxD : D → R D
  | .lst ds => match toInts ds with
    | some (n :: r) => .ok (.int (maxI n r))
    | _ => .stuck
  | _ => .stuck
section
variable {X : Cx} {E : XK} {e a b c : Expr} {f g h : EF} {pos : Pos}
theorem callr_false {fv : Value} : CallR X fv (fun _ _ _ => False) := fun _ _ _ _ _ _ _ _ _ h => h.elim
theorem cs_len : CS X E (.builtin "len") lenD := by
  intro dx
  cases dx <;> first
    | exact ⟨_, callr_false, fun _ _ _ _ _ _ w => (show False from w).elim⟩
    | skip
  · rename_i z
    refine ⟨_, call_len_str, fun G H vx Q s bx w => ?_⟩
    cases bx.str
    obtain ⟨hz, w⟩ := wite (c := z.length ≤ LIM) w
    exact ⟨z, rfl, lim_le hz, wok w s _ (.int _)⟩
  · rename_i ds
    refine ⟨_, call_len_seq, fun G H vx Q s bx w => ?_⟩
    obtain ⟨p, xs, rfl, hp, hr⟩ := bx.lst s
    refine ⟨p, xs, rfl, .inl (SqL.of hp), ?_⟩
    rw [hr.length]
    exact wok w s _ (.int _)
  · rename_i ds
    refine ⟨_, call_len_seq, fun G H vx Q s bx w => ?_⟩
    obtain ⟨p, xs, rfl, hp, hr⟩ := bx.tup
    refine ⟨p, xs, rfl, .inr (SqT.of (s _ _ hp)), ?_⟩
    rw [hr.length]
    exact wok w s _ (.int _)
  · rename_i ns
    refine ⟨_, call_len_seq, fun G H vx Q s bx w => ?_⟩
    obtain ⟨p, rfl, hp⟩ := bx.scr
    refine ⟨p, _, rfl, .inl (s.seq hp), ?_⟩
    rw [List.length_map]
    exact wok w s _ (.int _)
theorem cs_int : CS X E (.type "int") intD := by
  intro dx
  cases dx <;> first
    | exact ⟨_, callr_false, fun _ _ _ _ _ _ w => (show False from w).elim⟩
    | skip
  · rename_i k
    refine ⟨_, call_int1, fun G H vx Q s bx w => ?_⟩
    cases bx.bl
    exact .inr ⟨k, rfl, wok w s _ (.int _)⟩
  · rename_i i
    refine ⟨_, call_int1, fun G H vx Q s bx w => ?_⟩
    cases bx.int
    exact .inl ⟨i, rfl, wok w s _ (.int _)⟩
theorem maxI_spec : ∀ (r : List Int) (m : Int), (maxI m r = m ∨ maxI m r ∈ r) ∧ m ≤ maxI m r ∧ ∀ y ∈ r, y ≤ maxI m r
  | [], m => ⟨.inl rfl, Int.le_refl m, fun y hy => by cases hy⟩
  | n :: r, m => by
    have q := maxI_spec r (if n > m then n else m)
    show (maxI (if n > m then n else m) r = m ∨ maxI (if n > m then n else m) r ∈ n :: r) ∧ m ≤ maxI (if n > m then n else m) r ∧ ∀ y ∈ n :: r, y ≤ maxI (if n > m then n else m) r
    obtain ⟨q1, q2, q3⟩ := q
    have q4 : m ≤ maxI (if n > m then n else m) r ∧ n ≤ maxI (if n > m then n else m) r := by
      by_cases hc : n > m
      · rw [if_pos hc] at q2 ⊢; omega
      · rw [if_neg hc] at q2 ⊢; omega
    refine ⟨?_, q4.1, fun y hy => ?_⟩
    · rcases q1 with q1 | q1
      · by_cases hc : n > m
        · rw [if_pos hc] at q1
          exact .inr (by rw [if_pos hc, q1]; exact List.mem_cons_self)
        · rw [if_neg hc] at q1
          exact .inl (by rw [if_neg hc]; exact q1)
      · exact .inr (List.mem_cons_of_mem _ q1)
    · rcases List.mem_cons.mp hy with rfl | hy
      · exact q4.2
      · exact q3 y hy
theorem cs_max (hc : X.calm = true) : CS X E (.builtin "max") maxD := by
  intro dx
  cases dx <;> first
    | exact ⟨_, callr_false, fun _ _ _ _ _ _ w => (show False from w).elim⟩
    | skip
  rename_i ds
  refine ⟨_, cr_max hc, fun G H vx Q s bx w => ?_⟩
  obtain ⟨p, xs, rfl, hp, hr⟩ := bx.lst s
  cases e1 : toInts ds with
  | none => simp only [maxD, e1] at w; exact (show False from w).elim
  | some ns =>
    cases ns with
    | nil => simp only [maxD, e1] at w; exact (show False from w).elim
    | cons n r =>
      simp only [maxD, e1] at w
      have f1 := toInts_eq e1
      subst f1
      have g1 := hr.ints
      subst g1
      refine ⟨p, n :: r, rfl, SqL.of hp, Nat.succ_pos _, fun m hm hle => ?_⟩
      obtain ⟨q1, q2, q3⟩ := maxI_spec r n
      have e2 : m = maxI n r := by
        have a1 : m ≤ maxI n r := by
          rcases List.mem_cons.mp hm with rfl | hm
          · exact q2
          · exact q3 m hm
        have a2 : maxI n r ≤ m := by
          rcases q1 with q1 | q1
          · rw [q1]; exact hle n List.mem_cons_self
          · exact hle _ (List.mem_cons_of_mem _ q1)
        omega
      rw [e2]
      exact wok w s _ (.int _)
theorem cs_run {fv : Value} {o : D → R D} {G0 H0 : Hp} {env : En} {σ : L2.St} {G H : Hp} {Q : VK} (ho : CS X E fv o) (ha : SB X E a f) (r : Rep X.K G0 H0 env σ G H)
    (w : Wish X.mg E G H (fun d G' H' => ∀ v, Rp X.K G' v d → Q v H') (eUn o f env)) (hs : starEach [a] X.env = (false, eval a X.env) :: starEach [] X.env) :
    ∃ (r2 : List V → Hp → VK → Prop) (t : TA), CallR X fv r2 ∧ PA X [a] t ∧ tCB r2 t σ H Q := by
  unfold eUn at w
  have w1 := Wish.bind w
  cases hf : f env with
  | stuck => rw [hf] at w1; exact (show False from w1).elim
  | ex c' =>
    refine ⟨_, _, callr_false, pa_cons re_pe pa_nil hs, ?_⟩
    refine ha G0 H0 env σ G H _ r ?_
    rw [hf] at w1 ⊢
    exact w1
  | ok dx =>
    obtain ⟨r2, h1, h2⟩ := ho dx
    refine ⟨r2, _, h1, pa_cons re_pe pa_nil hs, ?_⟩
    refine ha G0 H0 env σ G H _ r ?_
    rw [hf] at w1 ⊢
    intro G1 H1 e1 vx bx
    exact h2 G1 H1 vx Q e1.sub bx (w1 G1 H1 e1)
theorem se_b1 {id : String} {x : Str} {p : Pos} {o : D → R D} (ho : CS X E (.builtin id) o) (ha : SB X E a f) (hm : X.mg x = none) (hg : Gl X x := by rfl) (hv : bootBuiltins x = some (.builtin id) := by decide +kernel)
    (hn : x ≠ "__name__" := by decide) (hdb : (x == ("__debug__" : Str)) = false := by decide) (hs : starEach [a] X.env = (false, eval a X.env) :: starEach [] X.env := by rfl) (hpl : (backTo pos (starEach [] X.env)).any (·.1) = false := by rfl) :
    SE X E (.Call (.Name x p) [a] [] pos) (eUn o f) := by
  intro G0 H0 env σ G H Q r w
  obtain ⟨r2, t, h1, h2, h3⟩ := cs_run ho ha r w hs
  exact ⟨_, pe_callB h1 hg hm hv h2 hn hdb hs hpl, h3⟩
theorem se_t1 {id : String} {x : Str} {p : Pos} {o : D → R D} (ho : CS X E (.type id) o) (ha : SB X E a f) (hm : X.mg x = none) (hg : Gl X x := by rfl) (hv : bootBuiltins x = some (.type id) := by decide +kernel)
    (hn : x ≠ "__name__" := by decide) (hdb : (x == ("__debug__" : Str)) = false := by decide) (hs : starEach [a] X.env = (false, eval a X.env) :: starEach [] X.env := by rfl) (hpl : (backTo pos (starEach [] X.env)).any (·.1) = false := by rfl) :
    SE X E (.Call (.Name x p) [a] [] pos) (eUn o f) := by
  intro G0 H0 env σ G H Q r w
  obtain ⟨r2, t, h1, h2, h3⟩ := cs_run ho ha r w hs
  exact ⟨_, pe_callTy h1 hg hm hv h2 hn hdb hs hpl, h3⟩
/-- a new list: list(x), sorted(x) -/
def CF (X : Cx) (E : XK) (fv : Value) (o : D → R D) : Prop :=
  ∀ dx, ∃ r : List V → Hp → VK → Prop, CallR X fv r ∧ ∀ (G H : Hp) (vx : V) (Q : VK), Same G H → Bp X.K G H vx dx →
    Wish X.mg E G H (fun d G' H' => ∀ p o, H p = none → H' p = some o → G' p = none → OwnR X.K G' o d → Q (.ref p) H') (o dx) → r [vx] H Q
def listD : D → R D
  | .lst ds => .ok (.lst ds)
  | .tup ds => .ok (.lst ds)
  | .scr ns => .ok (.lst (ns.map D.int))
  | _ => .stuck
theorem cf_list : CF X E (.type "list") listD := by
  intro dx
  cases dx <;> first
    | exact ⟨_, callr_false, fun _ _ _ _ _ _ w => (show False from w).elim⟩
    | skip
  · rename_i ds
    refine ⟨_, call_list_of, fun G H vx Q s bx w => ?_⟩
    obtain ⟨p, xs, rfl, hp, hr⟩ := bx.lst s
    exact ⟨p, xs, rfl, .inl (SqL.of hp), fun t ht => w G _ (Ext.newOwn s ht) t _ ht upd_same (s.free ht) ⟨_, rfl, hr⟩⟩
  · rename_i ds
    refine ⟨_, call_list_of, fun G H vx Q s bx w => ?_⟩
    obtain ⟨p, xs, rfl, hp, hr⟩ := bx.tup
    exact ⟨p, xs, rfl, .inr (SqT.of (s _ _ hp)), fun t ht => w G _ (Ext.newOwn s ht) t _ ht upd_same (s.free ht) ⟨_, rfl, hr⟩⟩
  · rename_i ns
    refine ⟨_, call_list_of, fun G H vx Q s bx w => ?_⟩
    obtain ⟨p, rfl, hp⟩ := bx.scr
    exact ⟨p, _, rfl, .inl (s.seq hp), fun t ht => w G _ (Ext.newOwn s ht) t _ ht upd_same (s.free ht) ⟨_, rfl, rp_ints ns⟩⟩
theorem sf_t1 {id : String} {x : Str} {p : Pos} {o : D → R D} (ho : CF X E (.type id) o) (ha : SB X E a f) (hm : X.mg x = none) (hg : Gl X x := by rfl) (hv : bootBuiltins x = some (.type id) := by decide +kernel)
    (hn : x ≠ "__name__" := by decide) (hdb : (x == ("__debug__" : Str)) = false := by decide) (hs : starEach [a] X.env = (false, eval a X.env) :: starEach [] X.env := by rfl) (hpl : (backTo pos (starEach [] X.env)).any (·.1) = false := by rfl) :
    SF X E (.Call (.Name x p) [a] [] pos) (eUn o f) := by
  intro G0 H0 env σ G H Q r w
  unfold eUn at w
  have w1 := Wish.bind w
  cases hf : f env with
  | stuck => rw [hf] at w1; exact (show False from w1).elim
  | ex c' =>
    refine ⟨_, pe_callTy callr_false hg hm hv (pa_cons re_pe pa_nil hs) hn hdb hs hpl, ?_⟩
    refine ha G0 H0 env σ G H _ r ?_
    rw [hf] at w1 ⊢
    exact w1
  | ok dx =>
    obtain ⟨r2, h1, h2⟩ := ho dx
    refine ⟨_, pe_callTy h1 hg hm hv (pa_cons re_pe pa_nil hs) hn hdb hs hpl, ?_⟩
    refine ha G0 H0 env σ G H _ r ?_
    rw [hf] at w1 ⊢
    intro G1 H1 e1 vx bx
    exact h2 G1 H1 vx Q e1.sub bx ((w1 G1 H1 e1).imp fun d G' H' e' q p o h3 h4 h5 h6 => q p o (e1.hh.free h3) h4 h5 h6)
theorem sf_b1 {id : String} {x : Str} {p : Pos} {o : D → R D} (ho : CF X E (.builtin id) o) (ha : SB X E a f) (hm : X.mg x = none) (hg : Gl X x := by rfl) (hv : bootBuiltins x = some (.builtin id) := by decide +kernel)
    (hn : x ≠ "__name__" := by decide) (hdb : (x == ("__debug__" : Str)) = false := by decide) (hs : starEach [a] X.env = (false, eval a X.env) :: starEach [] X.env := by rfl) (hpl : (backTo pos (starEach [] X.env)).any (·.1) = false := by rfl) :
    SF X E (.Call (.Name x p) [a] [] pos) (eUn o f) := by
  intro G0 H0 env σ G H Q r w
  unfold eUn at w
  have w1 := Wish.bind w
  cases hf : f env with
  | stuck => rw [hf] at w1; exact (show False from w1).elim
  | ex c' =>
    refine ⟨_, pe_callB callr_false hg hm hv (pa_cons re_pe pa_nil hs) hn hdb hs hpl, ?_⟩
    refine ha G0 H0 env σ G H _ r ?_
    rw [hf] at w1 ⊢
    exact w1
  | ok dx =>
    obtain ⟨r2, h1, h2⟩ := ho dx
    refine ⟨_, pe_callB h1 hg hm hv (pa_cons re_pe pa_nil hs) hn hdb hs hpl, ?_⟩
    refine ha G0 H0 env σ G H _ r ?_
    rw [hf] at w1 ⊢
    intro G1 H1 e1 vx bx
    exact h2 G1 H1 vx Q e1.sub bx ((w1 G1 H1 e1).imp fun d G' H' e' q p o h3 h4 h5 h6 => q p o (e1.hh.free h3) h4 h5 h6)
/-- max, min of two ints -/
def max2D : D → D → R D
  | .int i, .int j => .ok (.int (if j > i then j else i))
  | _, _ => .stuck
def min2D : D → D → R D
  | .int i, .int j => .ok (.int (if j < i then j else i))
  | _, _ => .stuck
theorem se_m2 {id : String} {x : Str} {p : Pos} {o : D → D → R D} {k : Int → Int → Int} (hc : CallR X (.builtin id) (fun xs H Q => ∃ i j, xs = [.int i, .int j] ∧ Q (.int (k i j)) H))
    (ho : ∀ dx dy, (∃ i j, dx = .int i ∧ dy = .int j ∧ o dx dy = .ok (.int (k i j))) ∨ o dx dy = .stuck) (ha : SB X E a f) (hb : SB X E b g) (hm : X.mg x = none) (hg : Gl X x := by rfl) (hv : bootBuiltins x = some (.builtin id) := by decide +kernel)
    (hn : x ≠ "__name__" := by decide) (hdb : (x == ("__debug__" : Str)) = false := by decide) (hs : starEach [a, b] X.env = (false, eval a X.env) :: starEach [b] X.env := by rfl) (hs2 : starEach [b] X.env = (false, eval b X.env) :: starEach [] X.env := by rfl)
    (hpl : (backTo pos (starEach [b] X.env)).any (·.1) = false := by rfl) : SE X E (.Call (.Name x p) [a, b] [] pos) (eOp o f g) := by
  intro G0 H0 env σ G H Q r w
  refine ⟨_, pe_callB hc hg hm hv (pa_cons re_pe (pa_cons re_pe pa_nil hs2) hs) hn hdb hs hpl, ?_⟩
  show Re X a σ H (fun x H1 => Re X b σ H1 fun y H2 => ∃ i j, [x, y] = [V.int i, V.int j] ∧ Q (.int (k i j)) H2)
  refine bin_run (P := fun _ _ _ _ _ _ => True) ha hb r ?_
  refine (Wish.bind w).imp fun dx G1 H1 e1 q => ?_
  refine (Wish.bind q).imp fun dy G2 H2 e2 q2 vx vy bx by' => ?_
  rcases ho dx dy with ⟨i, j, rfl, rfl, e⟩ | e
  · rw [e] at q2
    cases bx.int; cases by'.int
    exact ⟨i, j, rfl, q2 G2 H2 (Ext.refl e2.sub) _ (.int _)⟩
  · rw [e] at q2
    exact (show False from q2).elim
theorem max2_ok (dx dy : D) : (∃ i j, dx = .int i ∧ dy = .int j ∧ max2D dx dy = .ok (.int (if j > i then j else i))) ∨ max2D dx dy = .stuck := by
  cases dx <;> cases dy <;> first | exact .inr rfl | exact .inl ⟨_, _, rfl, rfl, rfl⟩
theorem min2_ok (dx dy : D) : (∃ i j, dx = .int i ∧ dy = .int j ∧ min2D dx dy = .ok (.int (if j < i then j else i))) ∨ min2D dx dy = .stuck := by
  cases dx <;> cases dy <;> first | exact .inr rfl | exact .inl ⟨_, _, rfl, rfl, rfl⟩
/-- isinstance(x, T), T a built-in type -/
def tyName : D → Option String
  | .non => none
  | .bl _ => some "bool"
  | .int _ => some "int"
  | .str _ => some "str"
  | .lst _ => some "list"
  | .tup _ => some "tuple"
  | _ => none
def isiD (T : String) (d : D) : R D := match tyName d with
  | some n => match kitB n T with
    | some k => .ok (.bl k)
    | none => .stuck
  | none => .stuck
theorem ty_of {K : PySem.W.Frag} {G H : Hp} {v : V} {d : D} {n : String} (s : Same G H) (b : Bp K G H v d) (h : tyName d = some n) : TyX K H v (.type n) := by
  have r := b.full s
  cases r <;> first | (cases h; done) | skip
  · cases h; exact .base (.bl _)
  · cases h; exact .base (.int _)
  · cases h; exact .base (.str _)
  · rename_i h1 _; cases h; exact .base (.lst h1)
  · rename_i h1 _; cases h; exact .base (.tup h1)
theorem se_isi {x y : Str} {p p2 : Pos} (T : String) (ha : SB X E a f) (hm : X.mg x = none) (hmT : X.mg y = none) (hvT : bootBuiltins y = some (.type T) := by decide +kernel) (hgT : Gl X y := by rfl) (hnT : y ≠ "__name__" := by decide) (hdT : (y == ("__debug__" : Str)) = false := by decide)
    (hg : Gl X x := by rfl) (hv : bootBuiltins x = some (.builtin "isinstance") := by decide +kernel)
    (hn : x ≠ "__name__" := by decide) (hdb : (x == ("__debug__" : Str)) = false := by decide) (hs : starEach [a, .Name y p2] X.env = (false, eval a X.env) :: starEach [.Name y p2] X.env := by rfl) (hs2 : starEach [.Name y p2] X.env = (false, eval (.Name y p2) X.env) :: starEach [] X.env := by rfl)
    (hpl : (backTo pos (starEach [.Name y p2] X.env)).any (·.1) = false := by rfl) : SE X E (.Call (.Name x p) [a, .Name y p2] [] pos) (eUn (isiD T) f) := by
  intro G0 H0 env σ G H Q r w
  refine ⟨_, pe_callB call_isi hg hm hv (pa_cons re_pe (pa_cons (pe_bltn (v := .ty T) hgT hmT hvT rfl hnT hdT) pa_nil hs2) hs) hn hdb hs hpl, ?_⟩
  refine ha G0 H0 env σ G H _ r ((Wish.bind w).imp fun d G1 H1 e1 q v hv => ?_)
  cases e : tyName d with
  | none => simp only [isiD, e] at q; exact (show False from q).elim
  | some n =>
    cases e' : kitB n T with
    | none => simp only [isiD, e, e'] at q; exact (show False from q).elim
    | some k =>
      simp only [isiD, e, e'] at q
      exact ⟨v, .ty T, .type n, .type T, k, rfl, .ty T, ty_of e1.sub hv e, kit_ty e', q G1 H1 (Ext.refl e1.sub) _ (.bl _)⟩

/-! ### list(range(a, b)) -/
def rgL (a b : Int) : List D := (List.range (b - a).toNat).map fun i => D.int (a + (i : Nat))
@[irreducible] def rgOk (a b : Int) : Bool := decide (0 ≤ a ∧ b ≤ 16777216 ∧ a ≤ 16777216 ∧ 0 ≤ b)
theorem rgOk_iff {a b : Int} : rgOk a b = true ↔ 0 ≤ a ∧ b ≤ 16777216 ∧ a ≤ 16777216 ∧ 0 ≤ b := by unfold rgOk; exact decide_eq_true_iff
def lrD : D → D → R D
  | .int i, .int j => if rgOk i j = true then .ok (.lst (rgL i j)) else .stuck
  | _, _ => .stuck
theorem rg_rp {K : PySem.W.Frag} {G : Hp} (a b : Int) : RpAll K G (rgV a b) (rgL a b) := by
  unfold rgV rgL
  induction (List.range (b - a).toNat) with
  | nil => exact .nil
  | cons n r ih => exact .cons (.int _) ih
theorem sf_listR {p q pos' : Pos} (hc : X.calm = true) (ha : SE X E a f) (hb : SE X E b g) (hml : X.mg "list" = none) (hmr : X.mg "range" = none) (hgl : Gl X "list" := by rfl) (hgr : Gl X "range" := by rfl)
    (na : starEach [a, b] X.env = (false, eval a X.env) :: starEach [b] X.env := by rfl) (nb : starEach [b] X.env = (false, eval b X.env) :: starEach [] X.env := by rfl) (hp : (backTo pos' (starEach [b] X.env)).any (·.1) = false := by rfl)
    (ne : starEach [.Call (.Name "range" q) [a, b] [] pos'] X.env = (false, eval (.Call (.Name "range" q) [a, b] [] pos') X.env) :: starEach [] X.env := by rfl) :
    SF X E (.Call (.Name "list" p) [.Call (.Name "range" q) [a, b] [] pos'] [] pos) (eOp lrD f g) := by
  intro G0 H0 env σ G H Q r w
  refine ⟨_, pe_listRg hc hgl hml (prg_2 hgr hmr re_pe re_pe na nb hp) ne, ?_⟩
  show Re X a σ H (fun x H1 => Re X b σ H1 fun y H2 => ∃ i j, x = V.int i ∧ y = V.int j ∧ RgOk i j ∧ ∀ q, H2 q = none → Q (.ref q) (upd H2 q (.lst (rgV i j))))
  refine bin_run (P := fun _ _ _ _ _ _ => True) (sb ha) (sb hb) r ?_
  refine (Wish.bind w).imp fun dx G1 H1 e1 q => ?_
  refine (Wish.bind q).imp fun dy G2 H2 e2 q2 vx vy bx by' => ?_
  cases dx <;> first | exact (show False from q2).elim | skip
  cases dy <;> first | exact (show False from q2).elim | skip
  rename_i i j
  cases bx.int; cases by'.int
  obtain ⟨hl, q3⟩ := wite (c := rgOk i j = true) q2
  obtain ⟨g1, g2, g3, g4⟩ := rgOk_iff.mp hl
  exact ⟨i, j, rfl, rfl, RgOk.of_le g1 g2 g3 g4, fun t ht => q3 G2 _ (Ext.newOwn e2.sub ht) t _ ((e1.trans e2).hh.free ht) upd_same (e2.sub.free ht) ⟨_, rfl, rg_rp i j⟩⟩
end

/-! ### defs -/
def spOf (K : PySem.W.Frag) (mg : Str → Option Value) (n : Nat) (fn : List D → R D) : Sp := fun vs H Q E => vs.length = n ∧ ∃ G ds, Same G H ∧ RpAll K G vs ds ∧
  Wish mg E G H (fun d G' H' => ∀ v, Rp K G' v d → Q v H') (fn ds)
/-- the module's name x is a def of n parameters that answers as fn says -/
structure Fz (P : Program) (w : World) (K : PySem.W.Frag) (mg : Str → Option Value) (base : Heap) (k : Nat) (x : Str) (n : Nat) (fn : List D → R D) : Prop where
  ex : ∃ (f : Addr) (fd : FuncData) (ps : List Str), ps.length = n ∧ mg x = some (.ref f) ∧ PySem.W.keepIn K (.ref f) = true ∧ Binds K fd ps [] ∧ FnOk P w K mg base (L2N.CX P w) k f fd ps (spOf K mg n fn)
section
variable {X : Cx} {E : XK} {e a b c : Expr} {f g h : EF} {pos : Pos} {es : List Expr} {fs : AF}
theorem Fz.mono {P : Program} {w : World} {K : PySem.W.Frag} {mg : Str → Option Value} {base : Heap} {j k : Nat} {x : Str} {n : Nat} {fn : List D → R D} (F : Fz P w K mg base j x n fn) (h : j ≤ k) : Fz P w K mg base k x n fn :=
  let ⟨f, fd, ps, h1, h2, h3, h4, h5⟩ := F.ex
  ⟨f, fd, ps, h1, h2, h3, h4, h5.mono h⟩
theorem se_call {k n : Nat} {x : Str} {p : Pos} {fn : List D → R D} (F : Fz X.prog X.w X.K X.mg X.base k x n fn) (hr : Room k X.A) (hx : Passes (L2N.CX X.prog X.w) X E) (ha : SAn X E (e :: es) fs) (hn : (e :: es).length = n := by rfl) (hg : Gl X x := by rfl)
    (hdb : (x == ("__debug__" : Str)) = false := by decide) (he : starEach (e :: es) X.env = (false, eval e X.env) :: starEach es X.env := by rfl) (hpl : (backTo pos (starEach es X.env)).any (·.1) = false := by rfl) :
    SE X E (.Call (.Name x p) (e :: es) [] pos) (eCall fn fs) := by
  intro G0 H0 env σ G H Q r w
  obtain ⟨fa, fd, ps, h1, h2, h3, h4, h5⟩ := F.ex
  refine ⟨_, pe_call (dvs := []) h5 hr hg h2 h3 h4 .nil hx ra_pa hdb he hpl, ?_⟩
  refine ha G0 H0 env σ G H _ r ((Wish.bind w).imp fun ds G1 H1 e1 q vs hvs hl => ?_)
  rw [List.append_nil]
  exact ⟨hl.trans hn, G1, ds, e1.sub, hvs, q⟩

/-- own lists among the arguments: what comes back is a scalar or a dict of ints -/
def flatR : R D → R D
  | .ok (.int i) => .ok (.int i)
  | .ok (.bl i) => .ok (.bl i)
  | .ok (.str i) => .ok (.str i)
  | .ok .non => .ok .non
  | .ok (.dct k) => .ok (.dct k)
  | .ex c => .ex c
  | _ => .stuck
def noDct : D → Bool
  | .dct _ => false
  | .dctT _ => false
  | _ => true
def eCallB (fn : List D → R D) (f : AF) : EF := fun env => (f env).bind fun ds => if ds.all noDct = true then flatR (fn ds) else .stuck
theorem bp_own {K : PySem.W.Frag} {G H : Hp} (s : Same G H) : ∀ {vs : List V} {ds : List D}, BpAll K G H vs ds → ds.all noDct = true → ∃ G2, Same G G2 ∧ Same G2 H ∧ RpAll K G2 vs ds ∧ ∀ a o, G2 a = some o → G a = some o ∨ (G a = none ∧ ∃ xs, o = .lst xs)
  | _, _, .nil, _ => ⟨G, Same.refl G, s, .nil, fun _ _ h => .inl h⟩
  | _, _, .cons (d := d) h r, hd => by
    rw [List.all_cons, Bool.and_eq_true] at hd
    obtain ⟨G2, g1, g2, g3, g4⟩ := bp_own s r hd.2
    rcases h with h | ⟨p, o, rfl, h1, h2, h3⟩
    · exact ⟨G2, g1, g2, .cons (h.mono g1) g3, g4⟩
    · cases d <;> first | (exact h3.elim) | (cases hd.1; done) | skip
      rename_i ds
      obtain ⟨xs, rfl, hxs⟩ := h3
      have s2 : Same G2 (fun a => if a = p then some (.lst xs) else G2 a) := fun a u z => by
        by_cases e : a = p
        · subst e
          have := g2 _ _ z
          rw [h2] at this
          cases this
          show (if a = a then _ else _) = _
          rw [if_pos rfl]
        · show (if a = p then _ else _) = _
          rw [if_neg e]; exact z
      refine ⟨fun a => if a = p then some (.lst xs) else G2 a, g1.trans s2, fun a u z => ?_, .cons (.lst (by show (if p = p then _ else _) = _; rw [if_pos rfl]) ((hxs.mono g1).mono s2)) (g3.mono s2), fun a u z => ?_⟩
      · by_cases e : a = p
        · subst e
          have z' : (if a = a then some (HO.lst xs) else G2 a) = some u := z
          rw [if_pos rfl] at z'
          cases z'
          exact h2
        · have z' : (if a = p then some (HO.lst xs) else G2 a) = some u := z
          rw [if_neg e] at z'
          exact g2 _ _ z'
      · by_cases e : a = p
        · subst e
          have z' : (if a = a then some (HO.lst xs) else G2 a) = some u := z
          rw [if_pos rfl] at z'
          cases z'
          exact .inr ⟨h1, xs, rfl⟩
        · have z' : (if a = p then some (HO.lst xs) else G2 a) = some u := z
          rw [if_neg e] at z'
          exact g4 _ _ z'
theorem se_callB {k n : Nat} {x : Str} {p : Pos} {fn : List D → R D} (F : Fz X.prog X.w X.K X.mg X.base k x n fn) (hr : Room k X.A) (hx : Passes (L2N.CX X.prog X.w) X E) (ha : SAbn X E (e :: es) fs) (hn : (e :: es).length = n := by rfl) (hg : Gl X x := by rfl)
    (hdb : (x == ("__debug__" : Str)) = false := by decide) (he : starEach (e :: es) X.env = (false, eval e X.env) :: starEach es X.env := by rfl) (hpl : (backTo pos (starEach es X.env)).any (·.1) = false := by rfl) :
    SE X E (.Call (.Name x p) (e :: es) [] pos) (eCallB fn fs) := by
  intro G0 H0 env σ G H Q r w
  obtain ⟨fa, fd, ps, h1, h2, h3, h4, h5⟩ := F.ex
  refine ⟨_, pe_call (dvs := []) h5 hr hg h2 h3 h4 .nil hx ra_pa hdb he hpl, ?_⟩
  refine ha G0 H0 env σ G H _ r ((Wish.bind w).imp fun ds G1 H1 e1 q vs hvs hl => ?_)
  rw [List.append_nil]
  by_cases hd : ds.all noDct = true
  · rw [if_pos hd] at q
    obtain ⟨G2, g1, g2, g3, g4⟩ := bp_own e1.sub hvs hd
    refine ⟨hl.trans hn, G2, ds, g2, g3, ?_⟩
    -- what is new comes beside the clean part
    have down : ∀ {G' H' : Hp}, Ext G2 H1 G' H' → Ext G1 H1 (fun a => if H1 a = none then G' a else G1 a) H' := fun {G' H'} e' => by
      refine ⟨fun a u z => ?_, e'.hh, fun a _ ha => ?_, fun a u z => ?_⟩
      · by_cases hz : H1 a = none
        · have z' : (if H1 a = none then G' a else G1 a) = some u := z
          rw [if_pos hz] at z'
          exact e'.sub _ _ z'
        · have z' : (if H1 a = none then G' a else G1 a) = some u := z
          rw [if_neg hz] at z'
          exact e'.hh _ _ (e1.sub _ _ z')
      · show (if H1 a = none then G' a else G1 a) = G1 a
        rw [if_neg ha]
      · show (if H1 a = none then G' a else G1 a) = some u
        rw [if_neg (fun q => by rw [e1.sub a u z] at q; cases q)]
        exact z
    revert q
    cases hfn : fn ds with
    | stuck => exact fun q => q
    | ex c => exact fun q G' H' C e' hc => q _ H' C (down e') hc
    | ok d =>
      cases d <;> first | exact fun q => (show False from q).elim | skip
      · exact fun q G' H' e' v hv => by cases hv; exact q _ H' (down e') _ .non
      · exact fun q G' H' e' v hv => by cases hv; exact q _ H' (down e') _ (.bl _)
      · exact fun q G' H' e' v hv => by cases hv; exact q _ H' (down e') _ (.int _)
      · exact fun q G' H' e' v hv => by cases hv; exact q _ H' (down e') _ (.str _)
      · rename_i ks
        intro q G' H' e' v hv
        cases hv with
        | dct hv =>
          rename_i t
          refine q _ H' (down e') _ (.dct ?_)
          show (if H1 t = none then G' t else G1 t) = _
          by_cases hz : H1 t = none
          · rw [if_pos hz]; exact hv
          · rw [if_neg hz]
            have hT : ∀ xs, H1 t ≠ some (.tup xs) := fun xs q => by
              have z1 := e'.hh _ _ q
              rw [e'.sub _ _ hv] at z1
              cases z1
            rw [e'.gg t hT hz] at hv
            rcases g4 _ _ hv with h | ⟨_, xs, h⟩
            · exact h
            · cases h
  · rw [if_neg hd] at q
    exact (show False from q).elim
end
end Cn

namespace Cn
open PySem PySem.Spec PyProof.Rows L2

/-! ### what is walked -/
def Walks (K : PySem.W.Frag) (J : It) (ds : List D) (G : Hp) : Prop := ∀ (i : Nat) (G1 H1 : Hp), Same G G1 → Same G1 H1 →
  (i < ds.length → J.go i H1 ∧ ∀ x H2, J.yld i H1 x H2 → ∃ G2, Ext G1 H1 G2 H2 ∧ ∃ d, ds[i]? = some d ∧ Rp K G2 x d) ∧ (ds.length ≤ i → J.stop i H1)
def SI (X : Cx) (E : XK) (tg iter : Expr) (fi : AF) : Prop := ∀ (G0 H0 : Hp) (env : En) (σ : L2.St) (G H : Hp) (Rr : It → Hp → Prop), Rep X.K G0 H0 env σ G H →
  Wish X.mg E G H (fun ds G' H' => ∀ J, Walks X.K J ds G' → Rr J H') (fi env) → ∃ wi, PI X tg iter wi ∧ wi σ H Rr
def Ri (X : Cx) (tg iter : Expr) : TI := fun σ H Rr => ∃ wi, PI X tg iter wi ∧ wi σ H Rr
theorem ri_pi {X : Cx} {tg iter : Expr} : PI X tg iter (Ri X tg iter) := ⟨fun pins s σ H Rr I ⟨t, h, q⟩ => h.run pins s σ H Rr I q⟩
def seqD : D → R (List D)
  | .lst ds => .ok ds
  | .scr ns => .ok (ns.map D.int)
  | _ => .stuck
def tupD : D → R (List D)
  | .tup ds => .ok ds
  | _ => .stuck
def iL (f : EF) : AF := fun env => (f env).bind seqD
def iT (f : EF) : AF := fun env => (f env).bind tupD
@[irreducible] def B62 (i : Int) : Bool := Nat.ble i.natAbs 1000000000
theorem B62_iff {i : Int} : B62 i = true ↔ -1000000000 ≤ i ∧ i ≤ 1000000000 := by unfold B62; rw [Nat.ble_eq]; omega
def rg1D : D → R (List D)
  | .int j => if B62 j = true then .ok (rgL 0 j) else .stuck
  | _ => .stuck
def rg2D : D → D → R (List D)
  | .int i, .int j => if (B62 i && B62 j) = true then .ok (rgL i j) else .stuck
  | _, _ => .stuck
def rgDown (i j : Int) : List D := (List.range (i - j).toNat).map fun k => D.int (i - (k : Nat))
def rg3D : D → D → D → R (List D)
  | .int i, .int j, .int c => if (decide (c = -1) && B62 i && B62 j) = true then .ok (rgDown i j) else .stuck
  | _, _, _ => .stuck
def iR1 (f : EF) : AF := fun env => (f env).bind rg1D
def iR2 (f g : EF) : AF := fun env => (f env).bind fun x => (g env).bind fun y => rg2D x y
def iR3 (f g h : EF) : AF := fun env => (f env).bind fun x => (g env).bind fun y => (h env).bind fun z => rg3D x y z
section
variable {X : Cx} {E : XK} {e a b c : Expr} {f g h : EF} {pos p : Pos} {tg : Expr}
theorem walks_l {K : PySem.W.Frag} {G : Hp} {p : Addr} {xs : List V} {ds : List D} (hp : G p = some (.lst xs)) (r : RpAll K G xs ds) : Walks K (Itl K p) ds G := by
  intro i G1 H1 s1 s2
  have hp1 : H1 p = some (.lst xs) := s2 _ _ (s1 _ _ hp)
  refine ⟨fun hi => ?_, fun hi => ⟨xs, SqL.of hp1, by rw [r.length]; exact hi⟩⟩
  obtain ⟨v, h1, h2⟩ := r.get (i := i) (d := ds[i]) (List.getElem?_eq_getElem hi)
  refine ⟨⟨xs, v, SqL.of hp1, h1⟩, fun x H2 y => ?_⟩
  obtain ⟨rfl, y⟩ := y
  have y2 := y xs (SqL.of hp1)
  rw [h1] at y2
  cases y2
  exact ⟨G1, Ext.refl s2, _, List.getElem?_eq_getElem hi, h2.mono s1⟩
theorem walks_s {K : PySem.W.Frag} {G : Hp} {p : Addr} {ns : List Int} (hp : SqL K G p (ns.map V.int)) : Walks K (Itl K p) (ns.map D.int) G := by
  intro i G1 H1 s1 s2
  have hp1 : SqL K H1 p (ns.map V.int) := s2.seq (s1.seq hp)
  refine ⟨fun hi => ?_, fun hi => ⟨_, hp1, by rw [List.length_map] at hi ⊢; exact hi⟩⟩
  rw [List.length_map] at hi
  have h1 : (ns.map V.int)[i]? = some (.int ns[i]) := by rw [List.getElem?_map, List.getElem?_eq_getElem hi]; rfl
  refine ⟨⟨_, _, hp1, h1⟩, fun x H2 y => ?_⟩
  obtain ⟨rfl, y⟩ := y
  have y2 := y _ hp1
  rw [h1] at y2
  cases y2
  exact ⟨G1, Ext.refl s2, D.int ns[i], by rw [List.getElem?_map, List.getElem?_eq_getElem hi]; rfl, .int _⟩
theorem walks_t {K : PySem.W.Frag} {G : Hp} {p : Addr} {xs : List V} {ds : List D} (hp : G p = some (.tup xs)) (r : RpAll K G xs ds) : Walks K (Itt K p) ds G := by
  intro i G1 H1 s1 s2
  have hp1 : H1 p = some (.tup xs) := s2 _ _ (s1 _ _ hp)
  refine ⟨fun hi => ?_, fun hi => ⟨xs, SqT.of hp1, by rw [r.length]; exact hi⟩⟩
  obtain ⟨v, h1, h2⟩ := r.get (i := i) (d := ds[i]) (List.getElem?_eq_getElem hi)
  refine ⟨⟨xs, v, SqT.of hp1, h1⟩, fun x H2 y => ?_⟩
  obtain ⟨rfl, y⟩ := y
  have y2 := y xs (SqT.of hp1)
  rw [h1] at y2
  cases y2
  exact ⟨G1, Ext.refl s2, _, List.getElem?_eq_getElem hi, h2.mono s1⟩
theorem rgL_get {a b : Int} {i : Nat} (h : i < (b - a).toNat) : (rgL a b)[i]? = some (D.int (a + (i : Nat))) := by
  unfold rgL
  rw [List.getElem?_map, List.getElem?_range h]
  rfl
theorem rgL_length (a b : Int) : (rgL a b).length = (b - a).toNat := by unfold rgL; rw [List.length_map, List.length_range]
theorem walks_r {K : PySem.W.Frag} {G : Hp} (lo hi : Int) : Walks K (Itr lo (hi - lo).toNat) (rgL lo hi) G := by
  intro i G1 H1 s1 s2
  rw [rgL_length]
  refine ⟨fun hi' => ⟨hi', fun x H2 y => ?_⟩, fun hi' => hi'⟩
  obtain ⟨rfl, rfl⟩ := y
  exact ⟨G1, Ext.refl s2, _, rgL_get hi', .int _⟩
theorem walks_d {K : PySem.W.Frag} {G : Hp} (i0 j0 : Int) : Walks K (Itc i0 (-1) (i0 - j0).toNat) (rgDown i0 j0) G := by
  intro i G1 H1 s1 s2
  have hl : (rgDown i0 j0).length = (i0 - j0).toNat := by unfold rgDown; rw [List.length_map, List.length_range]
  rw [hl]
  refine ⟨fun hi' => ⟨hi', fun x H2 y => ?_⟩, fun hi' => hi'⟩
  obtain ⟨rfl, rfl⟩ := y
  refine ⟨G1, Ext.refl s2, D.int (i0 - (i : Nat)), ?_, ?_⟩
  · unfold rgDown
    rw [List.getElem?_map, List.getElem?_range hi']
    rfl
  · have : i0 + ((i : Nat) : Int) * -1 = i0 - ((i : Nat) : Int) := by omega
    rw [this]
    exact .int _
theorem si_list (ha : SE X E a f) : SI X E tg a (iL f) := by
  intro G0 H0 env σ G H Rr r w
  refine ⟨_, pi_list re_pe, ?_⟩
  refine ha G0 H0 env σ G H _ r ((Wish.bind w).imp fun d G1 H1 e1 q v hv => ?_)
  cases d <;> first | exact (show False from q).elim | skip
  · cases hv with
    | lst hp hr => exact ⟨_, rfl, ⟨_, SqL.of (e1.sub _ _ hp)⟩, q G1 H1 (Ext.refl e1.sub) _ (walks_l hp hr)⟩
  · cases hv with
    | scr hp => exact ⟨_, rfl, ⟨_, e1.sub.seq hp⟩, q G1 H1 (Ext.refl e1.sub) _ (walks_s hp)⟩
theorem si_tup (ha : SE X E a f) : SI X E tg a (iT f) := by
  intro G0 H0 env σ G H Rr r w
  refine ⟨_, pi_tup re_pe, ?_⟩
  refine ha G0 H0 env σ G H _ r ((Wish.bind w).imp fun d G1 H1 e1 q v hv => ?_)
  cases d <;> first | exact (show False from q).elim | skip
  cases hv with
  | tup hp hr => exact ⟨_, rfl, ⟨_, SqT.of (e1.sub _ _ hp)⟩, q G1 H1 (Ext.refl e1.sub) _ (walks_t hp hr)⟩
theorem si_r1 (ha : SE X E a f) (hm : X.mg "range" = none) (hg : Gl X "range" := by rfl) (hs : starEach [a] X.env = [(false, eval a X.env)] := by rfl) (hs1 : starEach [a] X.env = (false, eval a X.env) :: starEach [] X.env := by rfl) :
    SI X E tg (.Call (.Name "range" p) [a] [] pos) (iR1 f) := by
  intro G0 H0 env σ G H Rr r w
  refine ⟨_, pi_range1 hg hm (pa_cons re_pe pa_nil hs1) hs, ?_⟩
  refine ha G0 H0 env σ G H _ r ((Wish.bind w).imp fun d G1 H1 e1 q v hv => ?_)
  cases d <;> first | exact (show False from q).elim | skip
  rename_i j
  cases hv
  obtain ⟨hb, q2⟩ := wite (c := B62 j = true) q
  obtain ⟨h1, h2⟩ := B62_iff.mp hb
  refine ⟨j, rfl, by omega, by omega, ?_⟩
  have z := walks_r (K := X.K) (G := G1) 0 j
  rw [Int.sub_zero] at z
  exact q2 G1 H1 (Ext.refl e1.sub) _ z
theorem si_r2 (ha : SE X E a f) (hb : SE X E b g) (hm : X.mg "range" = none) (hg : Gl X "range" := by rfl) (hs : starEach [a, b] X.env = [(false, eval a X.env), (false, eval b X.env)] := by rfl) (hs2 : starEach [b] X.env = [(false, eval b X.env)] := by rfl)
    (na : starEach [a, b] X.env = (false, eval a X.env) :: starEach [b] X.env := by rfl) (nb : starEach [b] X.env = (false, eval b X.env) :: starEach [] X.env := by rfl) :
    SI X E tg (.Call (.Name "range" p) [a, b] [] pos) (iR2 f g) := by
  intro G0 H0 env σ G H Rr r w
  refine ⟨_, pi_range2 hg hm (pa_cons re_pe (pa_cons re_pe pa_nil nb) na) hs hs2, ?_⟩
  show Re X a σ H (fun x H1 => Re X b σ H1 fun y H2 => ∃ i j : Int, [x, y] = [V.int i, V.int j] ∧ (-(2 ^ 62) ≤ i ∧ i < 2 ^ 62 ∧ -(2 ^ 62) ≤ j ∧ j < 2 ^ 62) ∧ Rr (Itr i (j - i).toNat) H2)
  refine bin_run (P := fun _ _ _ _ _ _ => True) (sb ha) (sb hb) r ?_
  refine (Wish.bind w).imp fun dx G1 H1 e1 q => ?_
  refine (Wish.bind q).imp fun dy G2 H2 e2 q2 vx vy bx by' => ?_
  cases dx <;> first | exact (show False from q2).elim | skip
  cases dy <;> first | exact (show False from q2).elim | skip
  rename_i i j
  cases bx.int; cases by'.int
  obtain ⟨hl, q3⟩ := wite (c := (B62 i && B62 j) = true) q2
  rw [Bool.and_eq_true] at hl
  obtain ⟨h1, h2⟩ := B62_iff.mp hl.1
  obtain ⟨h3, h4⟩ := B62_iff.mp hl.2
  exact ⟨i, j, rfl, ⟨by omega, by omega, by omega, by omega⟩, q3 G2 H2 (Ext.refl e2.sub) _ (walks_r i j)⟩
theorem si_r3 (ha : SE X E a f) (hb : SE X E b g) (hc : SE X E c h) (hm : X.mg "range" = none) (hg : Gl X "range" := by rfl) (hs : starEach [a, b, c] X.env = (false, eval a X.env) :: starEach [b, c] X.env := by rfl) (hpl : (backTo pos (starEach [b, c] X.env)).any (·.1) = false := by rfl)
    (nb : starEach [b, c] X.env = (false, eval b X.env) :: starEach [c] X.env := by rfl) (nc : starEach [c] X.env = (false, eval c X.env) :: starEach [] X.env := by rfl) :
    SI X E tg (.Call (.Name "range" p) [a, b, c] [] pos) (iR3 f g h) := by
  intro G0 H0 env σ G H Rr r w
  refine ⟨_, pi_range3 hg hm (pa_cons re_pe (pa_cons re_pe (pa_cons re_pe pa_nil nc) nb) hs) hs hpl, ?_⟩
  refine ha G0 H0 env σ G H _ r ((Wish.bind w).imp fun dx G1 H1 e1 q v hv => ?_)
  refine hb G0 H0 env σ G1 H1 _ (r.grow e1) ((Wish.bind q).imp fun dy G2 H2 e2 q2 v2 hv2 => ?_)
  refine hc G0 H0 env σ G2 H2 _ ((r.grow e1).grow e2) ((Wish.bind q2).imp fun dz G3 H3 e3 q3 v3 hv3 => ?_)
  cases dx <;> first | exact (show False from q3).elim | skip
  cases dy <;> first | exact (show False from q3).elim | skip
  cases dz <;> first | exact (show False from q3).elim | skip
  rename_i i j k
  cases hv; cases hv2; cases hv3
  obtain ⟨hl, q4⟩ := wite (c := (decide (k = -1) && B62 i && B62 j) = true) q3
  rw [Bool.and_eq_true, Bool.and_eq_true] at hl
  obtain ⟨⟨h0, h1⟩, h3⟩ := hl
  have h0 := of_decide_eq_true h0
  subst h0
  obtain ⟨h1, h2⟩ := B62_iff.mp h1
  obtain ⟨h3, h4⟩ := B62_iff.mp h3
  exact ⟨i, j, -1, _, rfl, RgC.neg (by omega) (by omega) (by omega) (by omega), q4 G3 H3 (Ext.refl e3.sub) _ (walks_d i j)⟩
end

/-! ### list comprehensions: one for, a name, no test or one -/
def eYes : EF := fun _ => .ok (.bl true)
def compL (j : Nat) (t e : EF) (env : En) : List D → R (List D)
  | [] => .ok []
  | d :: r => match t (env.set j (.val d)) with
    | .ok (.bl true) => match e (env.set j (.val d)) with
      | .ok v => (compL j t e env r).bind fun vs => .ok (v :: vs)
      | _ => .stuck
    | .ok (.bl false) => compL j t e env r
    | _ => .stuck
def eComp (fi : AF) (j : Nat) (t e : EF) : EF := fun env => (fi env).bind fun ds => if ds.length ≤ LIM then (match compL j t e env ds with
  | .ok vs => .ok (.lst vs)
  | _ => .stuck) else .stuck
def STs (X : Cx) (ifs : List Expr) (f : EF) : Prop := ∀ (G0 H0 : Hp) (env : En) (σ : L2.St) (G H : Hp) (Q : Bool → Hp → Prop), Rep X.K G0 H0 env σ G H →
  Wish X.mg E0 G H (fun d _ H' => ∃ b, d = .bl b ∧ Q b H') (f env) → ∃ t : TT, PTs X ifs t ∧ t σ H Q
theorem sts_nil {X : Cx} : STs X [] eYes := fun G0 H0 env σ G H Q r w => ⟨_, pts_nil, by
  obtain ⟨b, e, q⟩ := w G H (Ext.refl r.sub)
  cases e
  exact q⟩
theorem sts_one {X : Cx} {c : Expr} {f : EF} (hc : ST X E0 c f) : STs X [c] f := fun G0 H0 env σ G H Q r w =>
  let ⟨_, h1, h2⟩ := hc G0 H0 env σ G H Q r w
  ⟨_, pts_one h1, h2⟩
section
variable {X : Cx} {E : XK} {elt tg iter : Expr} {ifs : List Expr} {fi : AF} {t e : EF} {scope : Scope} {j : Nat} {x : Str} {pos p : Pos}
theorem lc_walk (hi : SI X E (.Name x p) iter fi) (ht : ∀ s H C cl fp, STs (X.blk s H scope (compEnvC scope cl C X.env) fp) ifs t) (he : ∀ s H C cl fp, SE (X.blk s H scope (compEnvC scope cl C X.env) fp) E0 elt e)
    (G0 H0 : Hp) (env : En) (σ : L2.St) (G H : Hp) (Q : VK) (r : Rep X.K G0 H0 env σ G H) (w : Wish X.mg E G H (fun d G' H' => ∀ p o, H p = none → H' p = some o → G' p = none → OwnR X.K G' o d → Q (.ref p) H') (eComp fi j t e env)) :
    tLc (Ri X (.Name x p) iter) (gName j) (fun σ H Q => ∀ s H' C cl fp, ∃ tt : TT, PTs (X.blk s H' scope (compEnvC scope cl C X.env) fp) ifs tt ∧ tt σ H Q)
      (fun σ H Q => ∀ s H' C cl fp, Re (X.blk s H' scope (compEnvC scope cl C X.env) fp) elt σ H Q) [j] σ H Q := by
  refine hi G0 H0 env σ G H _ r ((Wish.bind w).imp fun ds G1 H1 e1 q J hJ => ?_)
  intro D0 hD0
  obtain ⟨hlen, q⟩ : ds.length ≤ LIM ∧ Wish X.mg E G1 H1 (fun d G' H' => ∀ p o, H p = none → H' p = some o → G' p = none → OwnR X.K G' o d → Q (.ref p) H') (match compL j t e env ds with
      | .ok vs => .ok (.lst vs)
      | _ => .stuck) := by
    by_cases h : ds.length ≤ LIM
    · rw [if_pos h] at q; exact ⟨h, q⟩
    · rw [if_neg h] at q; exact (show False from q).elim
  cases hc : compL j t e env ds with
  | stuck => rw [hc] at q; exact (show False from q).elim
  | ex c => rw [hc] at q; exact (show False from q).elim
  | ok res =>
  rw [hc] at q
  have eD : Ext G1 H1 G1 (upd H1 D0 (.lst [])) := Ext.newOwn e1.sub hD0
  refine ⟨fun i m H' => m = ds.length - i ∧ i ≤ ds.length ∧ ∃ G' acc dacc rest, Ext G1 H1 G' H' ∧ H' D0 = some (.lst acc) ∧ G' D0 = none ∧ RpAll X.K G' acc dacc ∧ dacc.length ≤ i ∧ compL j t e env (ds.drop i) = .ok rest ∧ dacc ++ rest = res,
    ⟨ds.length, by omega, Nat.zero_le _, G1, [], [], res, eD, upd_same, e1.sub.free hD0, .nil, Nat.zero_le _, hc, rfl⟩, ?_⟩
  rintro i m H2 ⟨rfl, hi2, G2, acc, dacc, rest, x2, a2, g2, r2, l2, c2, hres⟩
  have rep2 : Rep X.K G0 H0 (env.set j .no) (wipe σ [j]) G2 H2 := ((r.grow e1).grow x2).setNo
  obtain ⟨hgo, hstop⟩ := hJ i G2 H2 (x2.same e1.sub) x2.sub
  by_cases hlt : i < ds.length
  · obtain ⟨hg, hy⟩ := hgo hlt
    refine .inr ⟨hg, fun H' => ∃ G' acc dacc rest', Ext G1 H1 G' H' ∧ H' D0 = some (.lst acc) ∧ G' D0 = none ∧ RpAll X.K G' acc dacc ∧ dacc.length ≤ i + 1 ∧ compL j t e env (ds.drop (i + 1)) = .ok rest' ∧ dacc ++ rest' = res,
      fun H' ⟨G', acc', dacc', rest', y⟩ => ⟨ds.length - (i + 1), by omega, rfl, hlt, G', acc', dacc', rest', y⟩, fun x H3 y => ?_⟩
    obtain ⟨G3, e3, d, hd, rd⟩ := hy x H3 y
    have hdrop : ds.drop i = d :: ds.drop (i + 1) := by
      rw [List.drop_eq_getElem_cons hlt]
      rw [List.getElem?_eq_getElem hlt] at hd
      cases hd
      rfl
    rw [hdrop] at c2
    have rep3 : Rep X.K G0 H0 (env.set j (.val d)) ((wipe σ [j]).set j (some x)) G3 H3 := by
      have z := (rep2.grow e3).setVal (i := j) rd
      rw [List.set_set] at z
      exact z
    have a3 : H3 D0 = some (.lst acc) := e3.hh _ _ a2
    have g3 : G3 D0 = none := e3.out a2 (fun _ z => nomatch z) g2
    have x3 := x2.trans e3
    have r3 := r2.mono (e3.same x2.sub)
    refine ⟨?_, fun s' Hb C cl fp => ?_⟩
    · show List.set (List.set (List.set σ j none) j (some x)) j none = List.set σ j none
      rw [List.set_set, List.set_set]
    · refine ht s' Hb C cl fp G0 H0 _ _ G3 H3 _ rep3 ?_
      unfold compL at c2
      cases hte : t (env.set j (.val d)) with
      | stuck => rw [hte] at c2; cases c2
      | ex c => rw [hte] at c2; cases c2
      | ok dt =>
        rw [hte] at c2
        cases dt <;> first | (cases c2; done) | skip
        rename_i k
        intro G4 H4 e4
        have a4 : H4 D0 = some (.lst acc) := e4.hh _ _ a3
        have g4 : G4 D0 = none := e4.out a3 (fun _ z => nomatch z) g3
        have x4 := x3.trans e4
        have r4 := r3.mono (e4.same x3.sub)
        refine ⟨k, rfl, ?_⟩
        cases k with
        | false => exact ⟨G4, acc, dacc, rest, x4, a4, g4, r4, by omega, c2, hres⟩
        | true =>
          rw [if_pos rfl]
          intro s' Hb C cl fp
          refine he s' Hb C cl fp G0 H0 _ _ G4 H4 _ (rep3.grow e4) ?_
          cases hee : e (env.set j (.val d)) with
          | stuck => simp only [hee] at c2; cases c2
          | ex c => simp only [hee] at c2; cases c2
          | ok dv =>
            simp only [hee] at c2
            intro G5 H5 e5 y hyv
            have a5 : H5 D0 = some (.lst acc) := e5.hh _ _ a4
            have g5 : G5 D0 = none := e5.out a4 (fun _ z => nomatch z) g4
            have x5 := x4.trans e5
            have r5 := r4.mono (e5.same x4.sub)
            cases hrest : compL j t e env (ds.drop (i + 1)) with
            | stuck => rw [hrest] at c2; cases c2
            | ex c => rw [hrest] at c2; cases c2
            | ok rest' =>
              rw [hrest] at c2
              have c3 : dv :: rest' = rest := by
                have z : R.ok (dv :: rest') = R.ok rest := c2
                injection z
              have ha5 : acc.length < sizeLine := lim_lt (by rw [r2.length]; omega)
              refine ⟨acc, a5, ha5, G5, acc ++ [y], dacc ++ [dv], rest', ⟨fun a o z => ?_, fun a o z => ?_, x5.gg, x5.sm⟩, upd_same, g5, r5.append (.cons hyv .nil), ?_, rfl, ?_⟩
              · rw [upd_ne (ne_of_none z g5)]; exact x5.sub a o z
              · rw [upd_ne (ne_of_none z hD0)]; exact x5.hh a o z
              · rw [List.length_append, List.length_singleton]; omega
              · rw [← hres, ← c3, List.append_assoc]; rfl
  · refine .inl ⟨hstop (by omega), ?_⟩
    have hdrop : ds.drop i = [] := List.drop_eq_nil_of_le (by omega)
    rw [hdrop] at c2
    cases c2
    rw [List.append_nil] at hres
    subst hres
    exact q G2 H2 x2 D0 (.lst acc) (e1.hh.free hD0) a2 g2 ⟨acc, rfl, r2⟩
theorem sf_lc (hcalm : X.calm = true) (hN : X.N.Nodup) (hi : SI X E (.Name x p) iter fi) (ok : BlkOk X.N X.env.scope scope [(x, j)]) (hg : ∀ s H C cl fp, PG (X.blk s H scope (compEnvC scope cl C X.env) fp) (.Name x p) (gName j))
    (ht : ∀ s H C cl fp, STs (X.blk s H scope (compEnvC scope cl C X.env) fp) ifs t) (he : ∀ s H C cl fp, SE (X.blk s H scope (compEnvC scope cl C X.env) fp) E0 elt e) (hs : ∀ x, foldedSetIterable iter X.env x = pure x := by intro _; rfl) :
    SF X E (.ListComp elt [⟨.Name x p, iter, ifs, 0⟩] scope pos) (eComp fi j t e) := by
  intro G0 H0 env σ G H Q r w
  refine ⟨_, pe_lc (own := [(x, j)]) hcalm hN ri_pi ok hg (fun s Hb C cl fp => ⟨fun pins s' σ' H' Q' I h => ?_⟩) (fun s Hb C cl fp => ⟨fun pins s' σ' H' Q' I h => ?_⟩) hs, lc_walk hi ht he G0 H0 env σ G H Q r w⟩
  · obtain ⟨tt, h1, h2⟩ := h s Hb C cl fp
    exact h1.run pins s' σ' H' Q' I h2
  · exact re_pe.run pins s' σ' H' Q' I (h s Hb C cl fp)
end

/-! ### statements -/
inductive Out where
  | nx (env : En) | rt (d : D) | bk (env : En) | ct (env : En) | ex (c : Str) | stuck
abbrev SFn := En → Out
def WishS (mg : Str → Option Value) (E : XK) (K : PySem.W.Frag) (G0 H0 : Hp) (G : Hp) (D : Ends) : Out → Prop
  | .nx env => ∀ σ' G' H', Rep K G0 H0 env σ' G' H' → Same G G' → D.nx σ' H'
  | .bk env => ∀ σ' G' H', Rep K G0 H0 env σ' G' H' → Same G G' → D.bk σ' H'
  | .ct env => ∀ σ' G' H', Rep K G0 H0 env σ' G' H' → Same G G' → D.ct σ' H'
  | .rt d => ∀ v G' H', Ext G0 H0 G' H' → Rp K G' v d → D.rt v H'
  | .ex c => ∀ G' H' C, Ext G0 H0 G' H' → mg c = some (.ref C) → E (.ref C) none H'
  | .stuck => False
theorem WishS.up {mg : Str → Option Value} {E : XK} {K : PySem.W.Frag} {G0 H0 G G1 : Hp} {D : Ends} (s : Same G G1) : ∀ {o : Out}, WishS mg E K G0 H0 G D o → WishS mg E K G0 H0 G1 D o
  | .nx _, h => fun σ' G' H' r s' => h σ' G' H' r (s.trans s')
  | .bk _, h => fun σ' G' H' r s' => h σ' G' H' r (s.trans s')
  | .ct _, h => fun σ' G' H' r s' => h σ' G' H' r (s.trans s')
  | .rt _, h => h
  | .ex _, h => h
  | .stuck, h => h
def SS (X : Cx) (E : XK) (st : Stmt) (F : SFn) : Prop := ∀ (G0 H0 : Hp) (env : En) (σ : L2.St) (G H : Hp) (D : Ends), Rep X.K G0 H0 env σ G H → WishS X.mg E X.K G0 H0 G D (F env) → Rs X st D σ H
def SSs (X : Cx) (E : XK) (sts : List Stmt) (F : SFn) : Prop := ∀ (G0 H0 : Hp) (env : En) (σ : L2.St) (G H : Hp) (D : Ends), Rep X.K G0 H0 env σ G H → WishS X.mg E X.K G0 H0 G D (F env) → Rss X sts D σ H
def rOut (r : R D) (k : D → Out) : Out := match r with
  | .ok d => k d
  | .ex c => .ex c
  | .stuck => .stuck
/-- an expression within a statement -/
theorem out_wish {mg : Str → Option Value} {E : XK} {K : PySem.W.Frag} {G0 H0 G H : Hp} {env : En} {σ : L2.St} {D : Ends} {r : R Cn.D} {k : Cn.D → Out} {P : Cn.D → Hp → Hp → Prop} (rp : Rep K G0 H0 env σ G H) (w : WishS mg E K G0 H0 G D (rOut r k))
    (f : ∀ d G' H', Ext G H G' H' → WishS mg E K G0 H0 G' D (k d) → P d G' H') : Wish mg E G H P r := by
  cases r with
  | ok d => exact fun G' H' e => f d G' H' e (WishS.up (o := k d) (e.same rp.sub) w)
  | ex c => exact fun G' H' C e hc => w G' H' C (rp.ext.trans e) hc
  | stuck => exact w
def sNil : SFn := fun env => .nx env
def sSeq (a b : SFn) : SFn := fun env => match a env with
  | .nx e => b e
  | o => o
def sIf (c : EF) (a b : SFn) : SFn := fun env => rOut (c env) fun d => match d with
  | .bl true => a env
  | .bl false => b env
  | _ => .stuck
def sAsg (i : Nat) (f : EF) : SFn := fun env => rOut (f env) fun d => .nx (env.set i (.val d))
def sOwn (i : Nat) (f : EF) : SFn := fun env => rOut (f env) fun d => .nx (env.set i (.own d))
def sRet (f : EF) : SFn := fun env => rOut (f env) fun d => .rt d
def sRetO (i : Nat) : SFn := fun env => match env[i]? with
  | some (.val d) => .rt d
  | some (.own d) => .rt d
  | _ => .stuck
def sRaise (c : Str) : SFn := fun _ => .ex c
def frz (i : Nat) (env : En) : En := match env[i]? with
  | some (.own d) => env.set i (.val d)
  | _ => env
def sFrz (i : Nat) (F : SFn) : SFn := fun env => F (frz i env)
def sApp (i : Nat) (f : EF) : SFn := fun env => match env[i]? with
  | some (.own (.lst ds)) => rOut (f env) fun d => if ds.length < LIM then .nx (env.set i (.own (.lst (ds ++ [d])))) else .stuck
  | _ => .stuck
def sExt (i : Nat) (f : EF) : SFn := fun env => match env[i]? with
  | some (.own (.lst ds)) => rOut (f env) fun d => match d with
    | .lst es => if ds.length + es.length ≤ LIM then .nx (env.set i (.own (.lst (ds ++ es)))) else .stuck
    | _ => .stuck
  | _ => .stuck
def addK {α : Type} [DecidableEq α] (ks : List α) (k : α) : List α := if k ∈ ks then ks else ks ++ [k]
/-- x[k] = v: v is reckoned first -/
def sPut (i : Nat) (fk fv : EF) : SFn := fun env => match env[i]? with
  | some (.own (.lst ds)) => rOut (fv env) fun v => rOut (fk env) fun k => match k with
    | .int n => match ixN ds.length n with
      | some m => .nx (env.set i (.own (.lst (ds.set m v))))
      | none => .stuck
    | _ => .stuck
  | _ => .stuck
/-- d[k] = True -/
def sPutD (i : Nat) (fk : EF) : SFn := fun env => match env[i]? with
  | some (.own (.dct ks)) => rOut (fk env) fun k => match k with
    | .int n => if ks.length < LIM then .nx (env.set i (.own (.dct (addK ks n)))) else .stuck
    | _ => .stuck
  | some (.own (.dctT ks)) => rOut (fk env) fun k => match k with
    | .tup xs => match toInts xs with
      | some ns => if ks.length < LIM then .nx (env.set i (.own (.dctT (addK ks ns)))) else .stuck
      | none => .stuck
    | _ => .stuck
  | _ => .stuck
def forL (tgt : D → En → Option En) (body : SFn) : List D → SFn
  | [], env => .nx env
  | d :: r, env => match tgt d env with
    | none => .stuck
    | some env1 => match body env1 with
      | .nx e => forL tgt body r e
      | .ct e => forL tgt body r e
      | .bk e => .nx e
      | .rt d => .rt d
      | .ex c => .ex c
      | .stuck => .stuck
def sFor (fi : AF) (tgt : D → En → Option En) (body : SFn) : SFn := fun env => match fi env with
  | .ok ds => forL tgt body ds env
  | .ex c => .ex c
  | .stuck => .stuck
def tgN (j : Nat) : D → En → Option En := fun d env => some (env.set j (.val d))
def tgP (i j : Nat) : D → En → Option En := fun d env => match d with
  | .tup [a, b] => some ((env.set i (.val a)).set j (.val b))
  | _ => none
def whileF (c : EF) (body : SFn) : Nat → SFn
  | 0, _ => .stuck
  | n + 1, env => rOut (c env) fun d => match d with
    | .bl true => match body env with
      | .nx e => whileF c body n e
      | .ct e => whileF c body n e
      | .bk e => .nx e
      | .rt d => .rt d
      | .ex c => .ex c
      | .stuck => .stuck
    | .bl false => .nx env
    | _ => .stuck
def sWhile (n : Nat) (c : EF) (body : SFn) : SFn := whileF c body n
end Cn

namespace Cn
open PySem PySem.Spec PyProof.Rows L2
section
variable {X : Cx} {E : XK} {e a b c : Expr} {f g h fk fv : EF} {pos p : Pos} {st : Stmt} {rest sts sts' : List Stmt} {F F' : SFn}
theorem ss_nil : SSs X E [] sNil := fun G0 H0 env σ G H D r w => ⟨_, pss_nil, w σ G H r (Same.refl G)⟩
theorem ss_cons (h1 : SS X E st F) (h2 : SSs X E rest F') : SSs X E (st :: rest) (sSeq F F') := by
  intro G0 H0 env σ G H D r w
  refine ⟨_, pss_cons rs_ps rss_pss, ?_⟩
  refine h1 G0 H0 env σ G H { D with nx := Rss X rest D } r ?_
  unfold sSeq at w
  revert w
  cases F env with
  | nx e => exact fun w σ' G' H' r' s => h2 G0 H0 e σ' G' H' D r' (WishS.up s w)
  | rt d => exact fun w => w
  | bk e => exact fun w => w
  | ct e => exact fun w => w
  | ex c => exact fun w => w
  | stuck => exact fun w => w
theorem ss_one (h1 : SS X E st F) : SSs X E [st] F := fun G0 H0 env σ G H D r w =>
  let ⟨_, a1, a2⟩ := h1 G0 H0 env σ G H D r w
  ⟨_, pss_one a1, a2⟩
theorem ss_if (hc : ST X E c f) (ha : SSs X E sts F) (hb : SSs X E sts' F') : SS X E (.If c sts sts' pos) (sIf f F F') := by
  intro G0 H0 env σ G H D r w
  refine ⟨_, ps_if rt_pt rss_pss rss_pss, ?_⟩
  refine hc G0 H0 env σ G H _ r (out_wish r w fun d G1 H1 e1 w1 => ?_)
  cases d <;> first | exact (show False from w1).elim | skip
  rename_i k
  refine ⟨k, rfl, ?_⟩
  cases k with
  | true => exact ha G0 H0 env σ G1 H1 D (r.grow e1) w1
  | false => exact hb G0 H0 env σ G1 H1 D (r.grow e1) w1
theorem ss_asg (i : Nat) {x : Str} {p : Pos} (hN : X.N.Nodup) (ha : SE X E e f) (hi : X.N[i]? = some x := by rfl) (hx : Loc X.env.scope x := by first | exact Or.inl rfl | exact Or.inr rfl) (hs : swapsWith e (some (.Name x p)) pos.line X.env = pure false := by rfl) (hf : X.fn x = true ∨ X.env.scope.names.lookup x = some .local := by first | exact .inl rfl | exact .inr rfl) :
    SS X E (.Assign [.Name x p] e pos) (sAsg i f) := by
  intro G0 H0 env σ G H D r w
  refine ⟨_, ps_set hN hi hx re_pe hs hf, ?_⟩
  refine ha G0 H0 env σ G H _ r (out_wish r w fun d G1 H1 e1 w1 v hv => ?_)
  exact w1 _ G1 H1 ((r.grow e1).setVal hv) (Same.refl G1)
theorem own_apart {K : PySem.W.Frag} {G0 H0 : Hp} {env : En} {σ : L2.St} {G H H' : Hp} (r : Rep K G0 H0 env σ G H) {p : Addr} (hp : H p = none) : ∀ (j : Nat) (e : D) (q : Addr), env[j]? = some (.own e) → σ[j]? = some (some (.ref q)) → q ≠ p := fun j e q h1 h2 z => by
  obtain ⟨p', o, g1, g2, _⟩ := r.own j e h1
  rw [g1] at h2
  cases h2
  rw [z, hp] at g2
  cases g2
theorem own_asg {D : Ends} {G0 H0 : Hp} {env : En} {σ : L2.St} {G H : Hp} {i : Nat} (r : Rep X.K G0 H0 env σ G H) {d : Cn.D} {G1 H1 : Hp} (e1 : Ext G H G1 H1) (w1 : WishS X.mg E X.K G0 H0 G1 D (.nx (env.set i (.own d)))) {p : Addr} {o : HO} (h1 : H p = none) (h2 : H1 p = some o) (h3 : G1 p = none) (h4 : OwnR X.K G1 o d) : D.nx (σ.set i (some (.ref p))) H1 := by
  refine w1 _ G1 H1 ((r.grow e1).setOwn (fun j e q g1 g2 => own_apart (H' := H) r h1 j e q g1 g2) h2 h3 (r.ext.hh.free h1) h4) (Same.refl G1)
theorem ss_own (i : Nat) {x : Str} {p : Pos} (hN : X.N.Nodup) (ha : SF X E e f) (hi : X.N[i]? = some x := by rfl) (hx : Loc X.env.scope x := by first | exact Or.inl rfl | exact Or.inr rfl) (hs : swapsWith e (some (.Name x p)) pos.line X.env = pure false := by rfl) (hf : X.fn x = true ∨ X.env.scope.names.lookup x = some .local := by first | exact .inl rfl | exact .inr rfl) :
    SS X E (.Assign [.Name x p] e pos) (sOwn i f) := by
  intro G0 H0 env σ G H D r w
  refine ⟨_, ps_set hN hi hx re_pe hs hf, ?_⟩
  refine ha G0 H0 env σ G H _ r (out_wish r w fun d G1 H1 e1 w1 p o h1 h2 h3 h4 => ?_)
  exact own_asg r e1 w1 h1 h2 h3 h4
theorem ss_ret (ha : SE X E e f) : SS X E (.Return (some e) pos) (sRet f) := by
  intro G0 H0 env σ G H D r w
  refine ⟨_, ps_ret re_pe, ?_⟩
  refine ha G0 H0 env σ G H _ r (out_wish r w fun d G1 H1 e1 w1 v hv => ?_)
  exact w1 v G1 H1 (r.ext.trans e1) hv
theorem ss_retO (i : Nat) {x : Str} {p : Pos} (hv : PE X (.Name x p) (tVar i)) : SS X E (.Return (some (.Name x p)) pos) (sRetO i) := by
  intro G0 H0 env σ G H D r w
  refine ⟨_, ps_ret hv, ?_⟩
  unfold sRetO at w
  split at w
  · rename_i d hd
    obtain ⟨v, h1, h2⟩ := r.val i d hd
    exact ⟨v, h1, w v G H r.ext h2⟩
  · rename_i d hd
    obtain ⟨p, o, h1, h2, h3, h4, h5⟩ := r.own i d hd
    obtain ⟨r2, s2⟩ := r.freeze hd h1 h2 h3 h4 h5
    exact ⟨.ref p, h1, w _ _ H r2.ext ((h5.mono s2).rp upd_same)⟩
  · exact (show False from w).elim
theorem ss_retN : SS X E (.Return none pos) (fun _ => .rt .non) := fun G0 H0 env σ G H D r w => ⟨_, ps_retN, w .non G H r.ext .non⟩
theorem ss_pass : SS X E (.Pass pos) sNil := fun G0 H0 env σ G H D r w => ⟨_, ps_pass, w σ G H r (Same.refl G)⟩
theorem ss_never : SS X E st (fun _ => .stuck) := fun G0 H0 env σ G H D r w => (show False from w).elim
theorem ss_frz (i : Nat) (h : SSs X E sts F) : SSs X E sts (sFrz i F) := by
  intro G0 H0 env σ G H D r w
  unfold sFrz frz at w
  split at w
  · rename_i d hd
    obtain ⟨p, o, h1, h2, h3, h4, h5⟩ := r.own i d hd
    obtain ⟨r2, s2⟩ := r.freeze hd h1 h2 h3 h4 h5
    exact h G0 H0 _ σ _ H D r2 (WishS.up s2 w)
  · exact h G0 H0 env σ G H D r w
/-- an own exception class of the text -/
structure Xc (K : PySem.W.Frag) (mg : Str → Option Value) (c : Str) : Prop where
  ex : ∃ C : Addr, mg c = some (.ref C) ∧ PySem.W.excIn K C [.type "ValueError", .type "Exception", .type "BaseException", .type "object"] "ValueError.__new__" = true ∧ PySem.W.keepIn K (.ref C) = true ∧
    PySem.W.subIn K (.ref C) (.type "BaseException") = some true ∧ PySem.W.typeIn K (.ref C) = some (.type "type")
theorem ss_raise {c : Str} {m : Str} {j : Nat} {p p2 pos' : Pos} (hc : X.calm = true) (tk : L2N.Takes X (fun cls d _ H => E cls d H)) (x : Xc X.K X.mg c) (hg : Gl X c := by rfl) (hdb : (c == ("__debug__" : Str)) = false := by decide) :
    SS X E (.Raise (some (.Call (.Name c p) [.Constant (.str m) j p2] [] pos')) none pos) (sRaise c) := by
  intro G0 H0 env σ G H D r w
  obtain ⟨C, h1, h2, h3, h4, h5⟩ := x.ex
  exact ⟨_, L2N.ps_raise hc tk (L2N.pmk_own PySem.F.excBase_ValueError h2 h1 h3 (raises_own h4 h5) hg hdb), w G H C r.ext h1⟩
theorem ss_app (i : Nat) {x : Str} {apos p : Pos} (hv : PE X (.Name x p) (tVar i)) (ha : SE X E e f)
    (hbase : attributeBase (.Name x p) "append" X.env (eval (.Name x p) X.env) = eval (.Name x p) X.env := by rfl)
    (hfew : ((backTo pos (starEach [e] X.env)).all (fun x => !x.1) && (backToKw pos (keywordEach [] X.env)).all (fun x => x.1.isSome)
      && decide ([e].length + ([] : List Keyword).length + (if ([] : List Keyword).isEmpty then 0 else 1) < 30)) = true := by rfl)
    (hline : (apos.endLine == pos.line) = true := by rfl) (hs : starEach [e] X.env = (false, eval e X.env) :: starEach [] X.env := by rfl) (hplain : (backTo pos (starEach [] X.env)).any (·.1) = false := by rfl)
    {epos : Pos} (hsw : swapsWith (.Call (.Attribute (.Name x p) "append" apos) [e] [] pos) none epos.line X.env = pure false := by rfl) :
    SS X E (.Expr (.Call (.Attribute (.Name x p) "append" apos) [e] [] pos) epos) (sApp i f) := by
  intro G0 H0 env σ G H D r w
  refine ⟨_, ps_expr (pe_bm PySem.F.plainAttrs_list PySem.F.slot_list_append PySem.F.type_list_append mt_append hv (pa_cons re_pe pa_nil hs) hbase hfew hline hs hplain) hsw, ?_⟩
  unfold sApp at w
  split at w
  · rename_i ds hd
    obtain ⟨p, o, h1, h2, h3, h4, h5⟩ := r.own i _ hd
    obtain ⟨xs, rfl, h6⟩ := h5
    refine ⟨.ref p, h1, .inl ⟨rfl, xs, SqL.of h2⟩, ?_⟩
    refine ha G0 H0 env σ G H _ r (out_wish r w fun d G1 H1 e1 w1 v hv => ?_)
    have hl : ds.length < LIM := by
      by_cases q : ds.length < LIM
      · exact q
      · rw [if_neg q] at w1; exact (show False from w1).elim
    rw [if_pos hl] at w1
    have a1 : H1 p = some (.lst xs) := e1.hh _ _ h2
    have g1 : G1 p = none := e1.out h2 (fun _ z => nomatch z) h3
    refine ⟨p, xs, v, rfl, rfl, a1, lim_lt (by rw [h6.length]; exact hl), ?_⟩
    exact w1 σ G1 _ ((r.grow e1).write hd h1 a1 g1 h4 ⟨_, rfl, (h6.mono (e1.same r.sub)).append (.cons hv .nil)⟩) (Same.refl G1)
  · exact (show False from w).elim
theorem ss_ext (i : Nat) {x : Str} {apos p : Pos} (hv : PE X (.Name x p) (tVar i)) (ha : SE X E e f)
    (hbase : attributeBase (.Name x p) "extend" X.env (eval (.Name x p) X.env) = eval (.Name x p) X.env := by rfl)
    (hfew : ((backTo pos (starEach [e] X.env)).all (fun x => !x.1) && (backToKw pos (keywordEach [] X.env)).all (fun x => x.1.isSome)
      && decide ([e].length + ([] : List Keyword).length + (if ([] : List Keyword).isEmpty then 0 else 1) < 30)) = true := by rfl)
    (hline : (apos.endLine == pos.line) = true := by rfl) (hs : starEach [e] X.env = (false, eval e X.env) :: starEach [] X.env := by rfl) (hplain : (backTo pos (starEach [] X.env)).any (·.1) = false := by rfl)
    {epos : Pos} (hsw : swapsWith (.Call (.Attribute (.Name x p) "extend" apos) [e] [] pos) none epos.line X.env = pure false := by rfl) :
    SS X E (.Expr (.Call (.Attribute (.Name x p) "extend" apos) [e] [] pos) epos) (sExt i f) := by
  intro G0 H0 env σ G H D r w
  refine ⟨_, ps_expr (pe_bm PySem.F.plainAttrs_list PySem.F.slot_list_extend PySem.F.type_list_extend mt_extend hv (pa_cons re_pe pa_nil hs) hbase hfew hline hs hplain) hsw, ?_⟩
  unfold sExt at w
  split at w
  · rename_i ds hd
    obtain ⟨p, o, h1, h2, h3, h4, h5⟩ := r.own i _ hd
    obtain ⟨xs, rfl, h6⟩ := h5
    refine ⟨.ref p, h1, .inl ⟨rfl, xs, SqL.of h2⟩, ?_⟩
    refine ha G0 H0 env σ G H _ r (out_wish r w fun d G1 H1 e1 w1 v hv => ?_)
    cases d <;> first | exact (show False from w1).elim | skip
    rename_i es
    have hl : ds.length + es.length ≤ LIM := by
      by_cases q : ds.length + es.length ≤ LIM
      · exact q
      · have w2 : WishS X.mg E X.K G0 H0 G1 D (if ds.length + es.length ≤ LIM then .nx (env.set i (.own (.lst (ds ++ es)))) else .stuck) := w1
        rw [if_neg q] at w2; exact (show False from w2).elim
    have w2 : WishS X.mg E X.K G0 H0 G1 D (if ds.length + es.length ≤ LIM then .nx (env.set i (.own (.lst (ds ++ es)))) else .stuck) := w1
    rw [if_pos hl] at w2
    have a1 : H1 p = some (.lst xs) := e1.hh _ _ h2
    have g1 : G1 p = none := e1.out h2 (fun _ z => nomatch z) h3
    cases hv with
    | lst hq hr =>
      rename_i q zs
      refine ⟨p, q, xs, zs, rfl, rfl, a1, e1.sub _ _ hq, lim_le (by rw [h6.length, hr.length]; exact hl), ?_⟩
      exact w2 σ G1 _ ((r.grow e1).write hd h1 a1 g1 h4 ⟨_, rfl, (h6.mono (e1.same r.sub)).append hr⟩) (Same.refl G1)
  · exact (show False from w).elim
theorem ss_put (i : Nat) {x : Str} {p p' : Pos} (hv : PE X (.Name x p) (tVar i)) (hk : SE X E b fk) (ha : SE X E e fv)
    (hsub : ∀ v, assign (.Subscript (.Name x p) b p') X.env v = (do
      let ov ← holding [v] (eval (.Name x p) X.env)
      let iv ← holding [v, ov] (eval b X.env)
      standAt p'
      holding [v, ov, iv] (setItem ov iv v)
      release [v, ov, iv] []) := by intro _; rfl)
    (hs : swapsWithSole [.Subscript (.Name x p) b p'] e pos.line X.env = pure false := by rfl) (hw : swappedStores [.Subscript (.Name x p) b p'] e X.env = pure none := by rfl)
    (h1 : (assignEach [.Subscript (.Name x p) b p'] X.env).map (·.2) = [assign (.Subscript (.Name x p) b p') X.env] := by rfl) :
    SS X E (.Assign [.Subscript (.Name x p) b p'] e pos) (sPut i fk fv) := by
  intro G0 H0 env σ G H D r w
  refine ⟨_, ps_asg re_pe (pg_sub hv re_pe set_list hsub) hs hw h1, ?_⟩
  unfold sPut at w
  split at w
  · rename_i ds hd
    obtain ⟨p, o, h1, h2, h3, h4, h5⟩ := r.own i _ hd
    obtain ⟨xs, rfl, h6⟩ := h5
    refine ha G0 H0 env σ G H _ r (out_wish r w fun d G1 H1 e1 w1 v hv => ?_)
    refine ⟨.ref p, h1, ?_⟩
    refine hk G0 H0 env σ G1 H1 _ (r.grow e1) (out_wish (r.grow e1) w1 fun k G2 H2 e2 w2 u hu => ?_)
    cases k <;> first | exact (show False from w2).elim | skip
    rename_i n
    cases hu
    cases hm : ixN ds.length n with
    | none => simp only [hm] at w2; exact (show False from w2).elim
    | some m =>
      simp only [hm] at w2
      have a2 : H2 p = some (.lst xs) := e2.hh _ _ (e1.hh _ _ h2)
      have g2 : G2 p = none := (e1.trans e2).out h2 (fun _ z => nomatch z) h3
      refine ⟨p, xs, n, m, rfl, rfl, a2, by rw [h6.length]; exact hm, ?_⟩
      exact w2 σ G2 _ (((r.grow e1).grow e2).write hd h1 a2 g2 h4 ⟨_, rfl, (h6.mono ((e1.trans e2).same r.sub)).set (hv.mono (e2.same e1.sub)) m⟩) (Same.refl G2)
  · exact (show False from w).elim
theorem putK_set {κ : Type} [DecidableEq κ] (ks : List κ) (k : κ) : putK (ks.map fun x => (x, V.bl true)) k (V.bl true) = (addK ks k).map fun x => (x, V.bl true) := by
  unfold putK addK
  have e : ((ks.map fun x => (x, V.bl true)).any fun kv => decide (kv.1 = k)) = decide (k ∈ ks) := by
    induction ks with
    | nil => simp
    | cons a r ih =>
      rw [List.map_cons, List.any_cons, ih]
      by_cases e : a = k
      · subst e; simp
      · have : ¬ k = a := fun z => e z.symm
        simp [e, this]
  rw [e]
  by_cases h : k ∈ ks
  · rw [if_pos (decide_eq_true h), if_pos h, List.map_map]
    refine List.map_congr_left fun x hx => ?_
    show (if x = k then (x, V.bl true) else (x, V.bl true)) = _
    split <;> rfl
  · rw [if_neg (by rw [decide_eq_false h]; decide), if_neg h, List.map_append]
    rfl
theorem addK_inl (ks : List Int) (n : Int) : addK (ks.map fun k => (Sum.inl k : Key)) (Sum.inl n) = (addK ks n).map fun k => (Sum.inl k : Key) := by
  unfold addK
  have e : ((Sum.inl n : Key) ∈ ks.map fun k => (Sum.inl k : Key)) ↔ n ∈ ks := by
    rw [List.mem_map]
    exact ⟨fun ⟨a, h, e⟩ => by cases e; exact h, fun h => ⟨n, h, rfl⟩⟩
  by_cases h : n ∈ ks
  · rw [if_pos (e.mpr h), if_pos h]
  · rw [if_neg (fun z => h (e.mp z)), if_neg h, List.map_append]; rfl
theorem addK_inlT (ks : List (List Int)) (n : List Int) : addK (ks.map fun t => t.map fun k => (Sum.inl k : Key)) (n.map fun k => (Sum.inl k : Key)) = (addK ks n).map fun t => t.map fun k => (Sum.inl k : Key) := by
  unfold addK
  have e : ((n.map fun k => (Sum.inl k : Key)) ∈ ks.map fun t => t.map fun k => (Sum.inl k : Key)) ↔ n ∈ ks := by
    rw [List.mem_map]
    exact ⟨fun ⟨a, h, e⟩ => by rw [← inl_inj e]; exact h, fun h => ⟨n, h, rfl⟩⟩
  by_cases h : n ∈ ks
  · rw [if_pos (e.mpr h), if_pos h]
  · rw [if_neg (fun z => h (e.mp z)), if_neg h, List.map_append]; rfl
theorem ss_putD (i : Nat) {x : Str} {p p' p'' : Pos} {jj : Nat} (hu : X.A.units + 1 < cLine) (hv : PE X (.Name x p) (tVar i)) (hk : SE X E b fk)
    (hs : swapsWith (.Constant (.bool true) jj p'') (some (.Subscript (.Name x p) b p')) pos.line X.env = pure false := by rfl) :
    SS X E (.Assign [.Subscript (.Name x p) b p'] (.Constant (.bool true) jj p'') pos) (sPutD i fk) := by
  intro G0 H0 env σ G H D r w
  refine ⟨_, ps_dput hu hv re_pe pe_bl hs, ?_⟩
  unfold sPutD at w
  split at w
  · rename_i ks hd
    obtain ⟨p, o, h1, h2, h3, h4, h5⟩ := r.own i _ hd
    have h5' : o = .dK (ks.map fun k => ((Sum.inl k : Key), V.bl true)) := h5
    subst h5'
    refine ⟨.ref p, h1, ?_⟩
    refine hk G0 H0 env σ G H _ r (out_wish r w fun k G2 H2 e2 w2 u hu => ?_)
    cases k <;> first | exact (show False from w2).elim | skip
    rename_i n
    cases hu
    have hl : ks.length < LIM := by
      by_cases q : ks.length < LIM
      · exact q
      · simp only [if_neg q] at w2; exact (show False from w2).elim
    simp only [if_pos hl] at w2
    have a2 := e2.hh _ _ h2
    have g2 : G2 p = none := e2.out h2 (fun _ z => nomatch z) h3
    refine ⟨p, _, rfl, DPut.k (k := Sum.inl n) (v := .bl true) a2 (lim_lt (by rw [List.length_map]; exact hl)), ?_⟩
    refine w2 σ G2 _ ((r.grow e2).write hd h1 a2 g2 h4 ?_) (Same.refl G2)
    show HO.dK _ = HO.dK _
    rw [kt_of (fun k => (Sum.inl k : Key)) ks, kt_of (fun k => (Sum.inl k : Key)) (addK ks n), putK_set, addK_inl]
  · rename_i ks hd
    obtain ⟨p, o, h1, h2, h3, h4, h5⟩ := r.own i _ hd
    have h5' : o = .dT (ks.map fun t => (t.map (fun k => (Sum.inl k : Key)), V.bl true)) := h5
    subst h5'
    refine ⟨.ref p, h1, ?_⟩
    refine hk G0 H0 env σ G H _ r (out_wish r w fun k G2 H2 e2 w2 u hu => ?_)
    cases k <;> first | exact (show False from w2).elim | skip
    rename_i ts
    cases hts : toInts ts with
    | none => simp only [hts] at w2; exact (show False from w2).elim
    | some ns =>
      simp only [hts] at w2
      have f1 := toInts_eq hts
      subst f1
      have hl : ks.length < LIM := by
        by_cases q : ks.length < LIM
        · exact q
        · simp only [if_neg q] at w2; exact (show False from w2).elim
      simp only [if_pos hl] at w2
      have a2 := e2.hh _ _ h2
      have g2 : G2 p = none := e2.out h2 (fun _ z => nomatch z) h3
      cases hu with
      | tup hq hr =>
        have hr2 := hr.ints
        subst hr2
        refine ⟨p, _, rfl, DPut.t (k := ns.map fun k => (Sum.inl k : Key)) (v := .bl true) a2 (by rw [kV_map]; exact e2.sub _ _ hq) (lim_lt (by rw [List.length_map]; exact hl)), ?_⟩
        refine w2 σ G2 _ ((r.grow e2).write hd h1 a2 g2 h4 ?_) (Same.refl G2)
        show HO.dT _ = HO.dT _
        rw [kt_of (fun t : List Int => t.map fun k => (Sum.inl k : Key)) ks, kt_of (fun t : List Int => t.map fun k => (Sum.inl k : Key)) (addK ks ns), putK_set, addK_inlT]
  · exact (show False from w).elim

/-! ### targets, loops -/
def SG (X : Cx) (tg : Expr) (ga : D → En → Option En) : Prop := ∃ g : TG, PG X tg g ∧ ∀ (G0 H0 : Hp) (env : En) (σ : L2.St) (G H : Hp) (x : V) (d : D) (env' : En) (k : L2.St → Hp → Prop), Rep X.K G0 H0 env σ G H → Rp X.K G x d → ga d env = some env' →
  (∀ σ', Rep X.K G0 H0 env' σ' G H → k σ' H) → g x σ H k
theorem sg_name (j : Nat) {x : Str} {p : Pos} (hN : X.N.Nodup) (hi : X.N[j]? = some x := by rfl) (hx : Loc X.env.scope x := by first | exact Or.inl rfl | exact Or.inr rfl) (hf : X.fn x = true ∨ X.env.scope.names.lookup x = some .local := by first | exact .inl rfl | exact .inr rfl) : SG X (.Name x p) (tgN j) :=
  ⟨gName j, pg_name hN hi hx hf, fun G0 H0 env σ G H x d env' k r rx e h => by
    cases (Option.some.inj e)
    exact h _ (r.setVal rx)⟩
theorem ss_for {tg iter : Expr} {fi : AF} {ga : D → En → Option En} {body : List Stmt} (hp : PassesOwn (model X.prog X.w) X.A X.env X.xe) (hc : X.calm = true) (hi : SI X E tg iter fi) (hg : SG X tg ga) (hb : SSs X E body F) (hs : ∀ x, foldedSetIterable iter X.env x = pure x := by intro _; rfl) :
    SS X E (.For tg iter body [] pos) (sFor fi ga F) := by
  intro G0 H0 env σ G H D r w
  obtain ⟨g, hg1, hg2⟩ := hg
  refine ⟨_, ps_for hp hc ri_pi hg1 rss_pss hs, ?_⟩
  refine hi G0 H0 env σ G H _ r ?_
  unfold sFor at w
  cases hfi : fi env with
  | stuck => rw [hfi] at w; exact w
  | ex c => rw [hfi] at w; exact fun G' H' C e hc => w G' H' C (r.ext.trans e) hc
  | ok ds =>
  rw [hfi] at w
  intro G1 H1 e1 J hJ
  have w1 : WishS X.mg E X.K G0 H0 G1 D (forL ga F ds env) := WishS.up (e1.same r.sub) w
  refine ⟨fun i m σ' H' => m = ds.length - i ∧ i ≤ ds.length ∧ ∃ env' G', Rep X.K G0 H0 env' σ' G' H' ∧ Same G1 G' ∧ WishS X.mg E X.K G0 H0 G' D (forL ga F (ds.drop i) env'),
    ⟨ds.length, by omega, Nat.zero_le _, env, G1, r.grow e1, Same.refl G1, w1⟩, ?_⟩
  rintro i m σ2 H2 ⟨rfl, hi2, env2, G2, r2, s2, w2⟩
  obtain ⟨hgo, hstop⟩ := hJ i G2 H2 s2 r2.sub
  by_cases hlt : i < ds.length
  · obtain ⟨hg, hy⟩ := hgo hlt
    refine .inr ⟨hg, fun σ' H' => ∃ env' G', Rep X.K G0 H0 env' σ' G' H' ∧ Same G1 G' ∧ WishS X.mg E X.K G0 H0 G' D (forL ga F (ds.drop (i + 1)) env'),
      fun σ' H' ⟨env', G', y⟩ => ⟨ds.length - (i + 1), by omega, rfl, hlt, env', G', y⟩, fun x H3 y => ?_⟩
    obtain ⟨G3, e3, d, hd, rd⟩ := hy x H3 y
    have hdrop : ds.drop i = d :: ds.drop (i + 1) := by
      rw [List.drop_eq_getElem_cons hlt]
      rw [List.getElem?_eq_getElem hlt] at hd
      cases hd
      rfl
    rw [hdrop] at w2
    have w3 := WishS.up (e3.same r2.sub) w2
    have s3 := s2.trans (e3.same r2.sub)
    unfold forL at w3
    cases hga : ga d env2 with
    | none => simp only [hga] at w3; exact (show False from w3).elim
    | some env3 =>
      simp only [hga] at w3
      refine hg2 G0 H0 env2 σ2 G3 H3 x d env3 _ (r2.grow e3) rd hga fun σ' r3 => ?_
      refine hb G0 H0 env3 σ' G3 H3 _ r3 ?_
      cases hF : F env3 with
      | nx e => simp only [hF] at w3; exact fun σ4 G4 H4 r4 s4 => ⟨e, G4, r4, s3.trans s4, WishS.up s4 w3⟩
      | ct e => simp only [hF] at w3; exact fun σ4 G4 H4 r4 s4 => ⟨e, G4, r4, s3.trans s4, WishS.up s4 w3⟩
      | bk e => simp only [hF] at w3; exact w3
      | rt d => simp only [hF] at w3; exact w3
      | ex c => simp only [hF] at w3; exact w3
      | stuck => simp only [hF] at w3; exact w3
  · refine .inl ⟨hstop (by omega), ?_⟩
    have hdrop : ds.drop i = [] := List.drop_eq_nil_of_le (by omega)
    rw [hdrop] at w2
    exact w2 σ2 G2 H2 r2 (Same.refl G2)
theorem ss_while {body : List Stmt} (n : Nat) (hp : PassesOwn (model X.prog X.w) X.A X.env X.xe) (hc : ST X E c f) (hb : SSs X E body F) : SS X E (.While c body [] pos) (sWhile n f F) := by
  intro G0 H0 env σ G H D r w
  refine ⟨_, ps_while hp rt_pt rss_pss, ?_⟩
  refine ⟨fun m σ' H' => ∃ env' G', Rep X.K G0 H0 env' σ' G' H' ∧ Same G G' ∧ WishS X.mg E X.K G0 H0 G' D (whileF f F m env'), ⟨n, env, G, r, Same.refl G, w⟩, ?_⟩
  rintro m σ2 H2 ⟨env2, G2, r2, s2, w2⟩
  cases m with
  | zero => exact (show False from w2).elim
  | succ m =>
    unfold whileF at w2
    refine hc G0 H0 env2 σ2 G2 H2 _ r2 (out_wish r2 w2 fun d G3 H3 e3 w3 => ?_)
    cases d <;> first | exact (show False from w3).elim | skip
    rename_i k
    refine ⟨k, rfl, ?_⟩
    have s3 := s2.trans (e3.same r2.sub)
    cases k with
    | false => exact w3 σ2 G3 H3 (r2.grow e3) (Same.refl G3)
    | true =>
      rw [if_pos rfl]
      refine ⟨fun σ' H' => ∃ env' G', Rep X.K G0 H0 env' σ' G' H' ∧ Same G G' ∧ WishS X.mg E X.K G0 H0 G' D (whileF f F m env'), fun σ' H' h => ⟨m, Nat.lt_succ_self m, h⟩, ?_⟩
      refine hb G0 H0 env2 σ2 G3 H3 _ (r2.grow e3) ?_
      cases hF : F env2 with
      | nx e => simp only [hF] at w3; exact fun σ4 G4 H4 r4 s4 => ⟨e, G4, r4, s3.trans s4, WishS.up s4 w3⟩
      | ct e => simp only [hF] at w3; exact fun σ4 G4 H4 r4 s4 => ⟨e, G4, r4, s3.trans s4, WishS.up s4 w3⟩
      | bk e => simp only [hF] at w3; exact w3
      | rt d => simp only [hF] at w3; exact w3
      | ex c => simp only [hF] at w3; exact w3
      | stuck => simp only [hF] at w3; exact w3
end

/-! ### a def -/
def runF (n : Nat) (B : SFn) (args : List D) : R D := match B (args.map Sl.val ++ List.replicate (n - args.length) Sl.no) with
  | .nx _ => .ok .non
  | .rt d => .ok d
  | .ex c => .ex c
  | _ => .stuck
theorem rep_start {K : PySem.W.Frag} {G H : Hp} {N : List Str} {vs : List V} {ds : List D} (s : Same G H) (r : RpAll K G vs ds) : Rep K G H (ds.map Sl.val ++ List.replicate (N.length - ds.length) Sl.no) (L2.start N vs) G H := by
  have hl := r.length
  have get : ∀ (i : Nat) (sl : Sl), (ds.map Sl.val ++ List.replicate (N.length - ds.length) Sl.no)[i]? = some sl → (∃ d, ds[i]? = some d ∧ sl = .val d) ∨ sl = .no := fun i sl h => by
    by_cases hi : i < ds.length
    · rw [List.getElem?_append_left (by rw [List.length_map]; exact hi), List.getElem?_map, List.getElem?_eq_getElem hi] at h
      exact .inl ⟨_, List.getElem?_eq_getElem hi, (Option.some.inj h).symm⟩
    · rw [List.getElem?_append_right (by rw [List.length_map]; omega)] at h
      exact .inr (List.eq_of_mem_replicate (List.mem_of_getElem? h))
  refine ⟨?_, Ext.refl s, fun i d h => ?_, fun i d h => ?_, fun i j d e p h => ?_⟩
  · unfold L2.start
    rw [List.length_append, List.length_append, List.length_map, List.length_map, List.length_replicate, List.length_replicate, hl]
  · rcases get i _ h with ⟨d', h1, h2⟩ | h2
    · cases h2
      obtain ⟨v, h3, h4⟩ := r.get h1
      refine ⟨v, ?_, h4⟩
      have hi : i < vs.length := (List.getElem?_eq_some_iff.mp h3).1
      unfold L2.start
      rw [List.getElem?_append_left (by rw [List.length_map]; exact hi), List.getElem?_map, h3]
      rfl
    · cases h2
  · rcases get i _ h with ⟨d', h1, h2⟩ | h2 <;> cases h2
  · rcases get i _ h with ⟨d', h1, h2⟩ | h2 <;> cases h2
/-- what a def's body may lean on -/
structure OkX (X : Cx) (E : XK) (k : Nat) : Prop where
  calm : X.calm = true
  nd : X.N.Nodup
  tk : L2N.Takes X (fun cls d _ H => E cls d H)
  po : PassesOwn (model X.prog X.w) X.A X.env X.xe
  room : Room k X.A
section
variable {P : Program} {w : World} {K : PySem.W.Frag} {mg : Str → Option Value} {base : Heap}
theorem passN {X : Cx} : Passes (L2N.CX X.prog X.w) X E0 := fun _ _ _ _ _ _ _ h => by
  obtain ⟨_, _, _, _, _, _, _, _, _, _, _, _, z⟩ := h
  exact z.elim
theorem OkX.ps {X : Cx} {E : XK} {k : Nat} (O : OkX X E k) : Passes (L2N.CX X.prog X.w) X E := L2N.passes_call O.tk fun _ _ _ _ h => h
theorem OkX.u {X : Cx} {E : XK} {k : Nat} (O : OkX X E k) : X.A.units < cLine := O.room.units0
theorem OkX.u1 {X : Cx} {E : XK} {k : Nat} (O : OkX X E k) : X.A.units + 1 < cLine := by have := O.room.units; omega
theorem OkX.u64 {X : Cx} {E : XK} {k : Nat} (O : OkX X E k) : X.A.units + 64 < cLine := O.room.units
theorem OkX.u65 {X : Cx} {E : XK} {k : Nat} (O : OkX X E k) : X.A.units + 65 < cLine := by have := O.room.un; omega
theorem fn_ok {x qual : Str} {st : Stmt} {f : Addr} {fd : FuncData} {N ps : List Str} {k : Nat} {B : SFn} (F : Fun K x qual st f fd) (S : FnScope N ps (defScope st))
    (body : ∀ (cdv : Value) (A : Around) (outer : List Env) (s : Shared) (H : Hp) (E : XK), OkX (cxOf (L2N.CX P w) P w K mg base N qual (defScope st) f cdv A outer s H E) E k →
      SSs (cxOf (L2N.CX P w) P w K mg base N qual (defScope st) f cdv A outer s H E) E (defBody st) B) :
    FnOk P w K mg base (L2N.CX P w) (k + 1) f fd ps (spOf K mg ps.length (runF N.length B)) := by
  obtain ⟨oc, od, kV, doc, pm, an, cdv, ct, osl, rfl, lk, hcd⟩ := F.ex
  refine fn_of lk hcd S (fun vs H Q E h => h.1) (fun A outer s H vs Q E hr h => ?_)
  obtain ⟨hl, G, ds, hs, hv, hw⟩ := h
  have O : OkX (cxOf (L2N.CX P w) P w K mg base N qual (defScope st) f cdv A outer s H E) E k := ⟨rfl, S.nd, L2N.takes_of rfl rfl rfl rfl, passes_of rfl, hr⟩
  refine body cdv A outer s H E O G H (ds.map Sl.val ++ List.replicate (N.length - ds.length) Sl.no) (L2.start N vs) G H { nx := fun _ H' => Q .non H', rt := Q } (rep_start hs hv) ?_
  unfold runF at hw
  revert hw
  cases B (ds.map Sl.val ++ List.replicate (N.length - ds.length) Sl.no) with
  | nx e => exact fun hw σ' G' H' r s => hw G' H' r.ext _ .non
  | rt d => exact fun hw v G' H' e hv => hw G' H' e v hv
  | ex c => exact fun hw G' H' C e hc => hw G' H' C e hc
  | bk e => exact fun hw => (show False from hw).elim
  | ct e => exact fun hw => (show False from hw).elim
  | stuck => exact fun hw => hw
end
end Cn

namespace Cn
open PySem PySem.Spec PyProof.Rows L2
section
variable {X : Cx} {E : XK} {elt iter : Expr} {ifs : List Expr} {fi : AF} {t e : EF} {scope : Scope} {j i : Nat} {x y : Str} {pos p py spos : Pos}
def lcT (X : Cx) (scope : Scope) (ifs : List Expr) : TT := fun σ H Q => ∀ s H' C cl fp, ∃ tt : TT, PTs (X.blk s H' scope (compEnvC scope cl C X.env) fp) ifs tt ∧ tt σ H Q
def lcE (X : Cx) (scope : Scope) (elt : Expr) : TE := fun σ H Q => ∀ s H' C cl fp, Re (X.blk s H' scope (compEnvC scope cl C X.env) fp) elt σ H Q
/-- y = [..] on one line, y a plain local -/
theorem ss_asgLc (i : Nat) (hcalm : X.calm = true) (hN : X.N.Nodup) (hi : SI X E (.Name x p) iter fi) (ok : BlkOk X.N X.env.scope scope [(x, j)]) (hg : ∀ s H C cl fp, PG (X.blk s H scope (compEnvC scope cl C X.env) fp) (.Name x p) (gName j))
    (ht : ∀ s H C cl fp, STs (X.blk s H scope (compEnvC scope cl C X.env) fp) ifs t) (he : ∀ s H C cl fp, SE (X.blk s H scope (compEnvC scope cl C X.env) fp) E0 elt e)
    (hsw : swapsWith (.ListComp elt [⟨.Name x p, iter, ifs, 0⟩] scope pos) (some (.Name y py)) spos.line X.env = pure true) (hy : X.N[i]? = some y := by rfl) (hyl : X.env.scope.names.lookup y = some .local := by rfl)
    (hs : ∀ x, foldedSetIterable iter X.env x = pure x := by intro _; rfl) :
    SS X E (.Assign [.Name y py] (.ListComp elt [⟨.Name x p, iter, ifs, 0⟩] scope pos) spos) (sAsg i (eComp fi j t e)) := by
  intro G0 H0 env σ G H D r w
  refine ⟨_, ps_setLc (own := [(x, j)]) (tt := lcT X scope ifs) (te := lcE X scope elt) hcalm hN hy hyl hsw ri_pi ok hg (fun s Hb C cl fp => ⟨fun pins s' σ' H' Q' I h => ?_⟩) (fun s Hb C cl fp => ⟨fun pins s' σ' H' Q' I h => ?_⟩) hs, ?_⟩
  · obtain ⟨tt, h1, h2⟩ := h s Hb C cl fp
    exact h1.run pins s' σ' H' Q' I h2
  · exact re_pe.run pins s' σ' H' Q' I (h s Hb C cl fp)
  · refine lc_walk (E := E) hi ht he G0 H0 env σ G H _ r ?_
    refine out_wish r w fun d G1 H1 e1 w1 p o h1 h2 h3 h4 => ?_
    have sg : Same G1 (upd G1 p o) := Same.upd h3
    have e2 : Ext G H (upd G1 p o) H1 := ⟨fun a u q => by
        by_cases z : a = p
        · subst z; rw [upd_same] at q; rw [h2]; exact q
        · rw [upd_ne z] at q; exact e1.sub a u q, e1.hh, fun a hn ha => by
        rw [upd_ne (fun z => ha (by rw [z]; exact h1))]; exact e1.gg a hn ha, e1.sm.trans sg⟩
    exact w1 _ _ H1 ((r.grow e2).setVal ((h4.mono sg).rp upd_same)) sg
theorem ss_ownLc (i : Nat) (hcalm : X.calm = true) (hN : X.N.Nodup) (hi : SI X E (.Name x p) iter fi) (ok : BlkOk X.N X.env.scope scope [(x, j)]) (hg : ∀ s H C cl fp, PG (X.blk s H scope (compEnvC scope cl C X.env) fp) (.Name x p) (gName j))
    (ht : ∀ s H C cl fp, STs (X.blk s H scope (compEnvC scope cl C X.env) fp) ifs t) (he : ∀ s H C cl fp, SE (X.blk s H scope (compEnvC scope cl C X.env) fp) E0 elt e)
    (hsw : swapsWith (.ListComp elt [⟨.Name x p, iter, ifs, 0⟩] scope pos) (some (.Name y py)) spos.line X.env = pure true) (hy : X.N[i]? = some y := by rfl) (hyl : X.env.scope.names.lookup y = some .local := by rfl)
    (hs : ∀ x, foldedSetIterable iter X.env x = pure x := by intro _; rfl) :
    SS X E (.Assign [.Name y py] (.ListComp elt [⟨.Name x p, iter, ifs, 0⟩] scope pos) spos) (sOwn i (eComp fi j t e)) := by
  intro G0 H0 env σ G H D r w
  refine ⟨_, ps_setLc (own := [(x, j)]) (tt := lcT X scope ifs) (te := lcE X scope elt) hcalm hN hy hyl hsw ri_pi ok hg (fun s Hb C cl fp => ⟨fun pins s' σ' H' Q' I h => ?_⟩) (fun s Hb C cl fp => ⟨fun pins s' σ' H' Q' I h => ?_⟩) hs, ?_⟩
  · obtain ⟨tt, h1, h2⟩ := h s Hb C cl fp
    exact h1.run pins s' σ' H' Q' I h2
  · exact re_pe.run pins s' σ' H' Q' I (h s Hb C cl fp)
  · refine lc_walk (E := E) hi ht he G0 H0 env σ G H _ r ?_
    refine out_wish r w fun d G1 H1 e1 w1 p o h1 h2 h3 h4 => ?_
    exact own_asg r e1 w1 h1 h2 h3 h4
/-- chained comparison -/
theorem se_chain {a b c : Expr} {f g h : EF} {op op' : CmpOp} {o o' : D → D → R D} (ho : OS X E (compareOp op) o) (ho' : OS X E (compareOp op') o') (ha : SB X E a f) (hb : SB X E b g) (hc : SB X E c h)
    (hm : lastMarks [op, op'] [b, c] = false := by with_unfolding_all rfl) : SE X E (.Compare a [op, op'] [b, c] pos) (eChain o o' f g h) := by
  intro G0 H0 env σ G H Q r w
  unfold eChain at w
  have w1 := Wish.bind w
  cases hf : f env with
  | stuck => rw [hf] at w1; exact (show False from w1).elim
  | ex c' =>
    refine ⟨_, pe_chain opr_false opr_false re_pe re_pe re_pe hm, ?_⟩
    refine ha G0 H0 env σ G H _ r ?_
    rw [hf] at w1 ⊢
    exact w1
  | ok dx =>
    rw [hf] at w1
    cases hg : g env with
    | stuck =>
      have w3 := Wish.bind (w1 G H (Ext.refl r.sub))
      rw [hg] at w3
      exact (show False from w3).elim
    | ex c' =>
      refine ⟨_, pe_chain opr_false opr_false re_pe re_pe re_pe hm, ?_⟩
      refine ha G0 H0 env σ G H _ r ?_
      rw [hf]
      intro G1 H1 e1 x bx
      refine hb G0 H0 env σ G1 H1 _ (r.grow e1) ?_
      have w3 := Wish.bind (w1 G1 H1 e1)
      rw [hg] at w3 ⊢
      exact w3
    | ok dy =>
      obtain ⟨r1, h1, k1⟩ := ho dx dy
      cases hh : h env with
      | stuck =>
        refine ⟨_, pe_chain h1 opr_false re_pe re_pe re_pe hm, ?_⟩
        refine ha G0 H0 env σ G H _ r ?_
        rw [hf]
        intro G1 H1 e1 x bx
        refine hb G0 H0 env σ G1 H1 _ (r.grow e1) ?_
        have w3 := Wish.bind (w1 G1 H1 e1)
        rw [hg] at w3 ⊢
        intro G2 H2 e2 y by'
        refine k1 G2 H2 x y _ e2.sub (bx.ext e1.sub e2) by' ((Wish.bind (w3 G2 H2 e2)).imp fun z G3 H3 e3 q v hv => ?_)
        cases z <;> first | exact (show False from q).elim | skip
        rename_i k
        cases hv
        refine ⟨k, rfl, ?_⟩
        cases k with
        | false => exact q G3 H3 (Ext.refl e3.sub) _ (.bl _)
        | true =>
          have q' := Wish.bind q
          rw [hh] at q'
          exact (show False from q').elim
      | ex c' =>
        refine ⟨_, pe_chain h1 opr_false re_pe re_pe re_pe hm, ?_⟩
        refine ha G0 H0 env σ G H _ r ?_
        rw [hf]
        intro G1 H1 e1 x bx
        refine hb G0 H0 env σ G1 H1 _ (r.grow e1) ?_
        have w3 := Wish.bind (w1 G1 H1 e1)
        rw [hg] at w3 ⊢
        intro G2 H2 e2 y by'
        refine k1 G2 H2 x y _ e2.sub (bx.ext e1.sub e2) by' ((Wish.bind (w3 G2 H2 e2)).imp fun z G3 H3 e3 q v hv => ?_)
        cases z <;> first | exact (show False from q).elim | skip
        rename_i k
        cases hv
        refine ⟨k, rfl, ?_⟩
        cases k with
        | false => exact q G3 H3 (Ext.refl e3.sub) _ (.bl _)
        | true =>
          refine hc G0 H0 env σ G3 H3 _ (((r.grow e1).grow e2).grow e3) ?_
          have q' := Wish.bind q
          rw [hh] at q' ⊢
          exact q'
      | ok dz =>
        obtain ⟨r2, h2, k2⟩ := ho' dy dz
        refine ⟨_, pe_chain h1 h2 re_pe re_pe re_pe hm, ?_⟩
        refine ha G0 H0 env σ G H _ r ?_
        rw [hf]
        intro G1 H1 e1 x bx
        refine hb G0 H0 env σ G1 H1 _ (r.grow e1) ?_
        have w3 := Wish.bind (w1 G1 H1 e1)
        rw [hg] at w3 ⊢
        intro G2 H2 e2 y by'
        refine k1 G2 H2 x y _ e2.sub (bx.ext e1.sub e2) by' ((Wish.bind (w3 G2 H2 e2)).imp fun z G3 H3 e3 q v hv => ?_)
        cases z <;> first | exact (show False from q).elim | skip
        rename_i k
        cases hv
        refine ⟨k, rfl, ?_⟩
        cases k with
        | false => exact q G3 H3 (Ext.refl e3.sub) _ (.bl _)
        | true =>
          refine hc G0 H0 env σ G3 H3 _ (((r.grow e1).grow e2).grow e3) ?_
          have q' := Wish.bind q
          rw [hh] at q' ⊢
          intro G4 H4 e4 z hz
          exact k2 G4 H4 y z _ e4.sub ((by'.ext e2.sub e3).ext e3.sub e4) hz (q' G4 H4 e4)
end

/-! ### the end of a law -/
def spLaw (K : PySem.W.Frag) : Sp := fun vs H Q _ => ∃ (a : Addr) (ns : List Int), vs = [.ref a] ∧ SqL K H a (ns.map V.int) ∧ ns.length ≤ 63 ∧ ∀ H', Q (.bl true) H'
theorem law_of {P : Program} {w : World} {K : PySem.W.Frag} {mg : Str → Option Value} {base : Heap} {k : Nat} {f : Addr} {fd : FuncData} {fn : List D → R D} (F : FnOk P w K mg base (L2N.CX P w) k f fd ["script"] (spOf K mg 1 fn)) (h : ∀ ns : List Int, ns.length ≤ 63 → fn [.scr ns] = .ok (.bl true)) :
    FnOk P w K mg base (L2N.CX P w) k f fd ["script"] (spLaw K) := F.imp fun vs H Q E ⟨a, ns, e, hs, hl, q⟩ => by
  subst e
  refine ⟨rfl, H, [.scr ns], Same.refl H, .cons (.scr hs) .nil, ?_⟩
  rw [h ns hl]
  intro G' H' e v hv
  cases hv
  exact q H'
theorem fz_of {P : Program} {w : World} {K : PySem.W.Frag} {mg : Str → Option Value} {base : Heap} {k n : Nat} {x : Str} {f : Addr} {fd : FuncData} {ps : List Str} {fn : List D → R D} (hl : ps.length = n) (hm : mg x = some (.ref f)) (hk : PySem.W.keepIn K (.ref f) = true) (hb : Binds K fd ps []) (F : FnOk P w K mg base (L2N.CX P w) k f fd ps (spOf K mg ps.length fn)) : Fz P w K mg base k x n fn :=
  ⟨f, fd, ps, hl, hm, hk, hb, by rw [← hl]; exact F⟩
theorem fz_stuck {P : Program} {w : World} {K : PySem.W.Frag} {mg : Str → Option Value} {base : Heap} {k n : Nat} {x : Str} {f : Addr} {fd : FuncData} {ps : List Str} (hl : ps.length = n) (hm : mg x = some (.ref f)) (hk : PySem.W.keepIn K (.ref f) = true) (hb : Binds K fd ps []) : Fz P w K mg base k x n (fun _ => .stuck) := by
  have no : ∀ vs H Q E, ¬ spOf K mg n (fun _ => .stuck) vs H Q E := fun vs H Q E ⟨_, _, _, _, _, h⟩ => h
  exact ⟨f, fd, ps, hl, hm, hk, hb, fun vs H Q E h => absurd h (no vs H Q E), fun A outer s H args us vs Q E _ _ _ _ h => absurd h (no vs H Q E)⟩
theorem cx_end {P : Program} {w : World} {H : Hp} {s : Shared} {e : Value} {s' : Shared} : L2N.CX P w [] H s (fun _ _ _ => False) e s' → False := fun h => by
  obtain ⟨_, _, _, _, _, _, _, _, _, _, _, _, z⟩ := h
  exact z
end Cn

namespace Cn
open PySem PySem.Spec PyProof.Rows L2
def sExpr (f : EF) : SFn := fun env => rOut (f env) fun _ => .nx env
def lowerD : D → R D
  | .int i => if i = 256 then .ok (.int 16) else if i = 16 then .ok (.int 4) else if i = 4 then .ok (.int 2) else if i = 2 then .ok (.int 1) else .stuck
  | _ => .stuck
def lowerEs (t1 t2 t3 t4 u1 u2 u3 u4 : Tok) : Array DictEntry := #[⟨256, .int 256 t1, .int 16 u1⟩, ⟨16, .int 16 t2, .int 4 u2⟩, ⟨4, .int 4 t3, .int 2 u3⟩, ⟨2, .int 2 t4, .int 1 u4⟩]
structure LowerOk (K : PySem.W.Frag) (mg : Str → Option Value) : Prop where
  ex : ∃ (a : Addr) (n : Nat) (t1 t2 t3 t4 u1 u2 u3 u4 : Tok), mg "LOWER" = some (.ref a) ∧ K.lookup a = some ⟨.type "dict", none, .dict (lowerEs t1 t2 t3 t4 u1 u2 u3 u4) n, #[]⟩
section
variable {X : Cx} {E : XK} {e a b c : Expr} {f g h : EF} {pos p : Pos}
theorem ss_expr (ha : SE X E e f) (hs : swapsWith e none pos.line X.env = pure false := by rfl) : SS X E (.Expr e pos) (sExpr f) := by
  intro G0 H0 env σ G H D r w
  refine ⟨_, ps_expr re_pe hs, ?_⟩
  refine ha G0 H0 env σ G H _ r (out_wish r w fun d G1 H1 e1 w1 v hv => ?_)
  exact w1 σ G1 H1 (r.grow e1) (Same.refl G1)
theorem lower_map {w : World} {prog : Program} {h : Heap} {a : Addr} {n : Nat} {t1 t2 t3 t4 u1 u2 u3 u4 : Tok} (hl : h.get? a = some ⟨.type "dict", none, .dict (lowerEs t1 t2 t3 t4 u1 u2 u3 u4) n, #[]⟩) :
    h.MapOf (intKind prog w) a (fun k => findBy Value.isInt (lowerEs t1 t2 t3 t4 u1 u2 u3 u4) k) := by
  refine ⟨_, _, n, hl, ⟨rfl, rfl, rfl⟩, rfl, fun e he => ?_, fun _ => rfl⟩
  have he' : e ∈ ([⟨256, .int 256 t1, .int 16 u1⟩, ⟨16, .int 16 t2, .int 4 u2⟩, ⟨4, .int 4 t3, .int 2 u3⟩, ⟨2, .int 2 t4, .int 1 u4⟩] : List DictEntry) := Array.mem_toList_iff.mpr he
  simp only [List.mem_cons, List.not_mem_nil, or_false] at he'
  rcases he' with rfl | rfl | rfl | rfl
  · exact ⟨256, intKind_is prog w 256 t1, by first | rfl | decide +kernel⟩
  · exact ⟨16, intKind_is prog w 16 t2, by first | rfl | decide +kernel⟩
  · exact ⟨4, intKind_is prog w 4 t3, by first | rfl | decide +kernel⟩
  · exact ⟨2, intKind_is prog w 2 t4, by first | rfl | decide +kernel⟩
theorem lower_find {t1 t2 t3 t4 u1 u2 u3 u4 : Tok} {i j : Int} (h : lowerD (.int i) = .ok (.int j)) : ∃ t, findBy Value.isInt (lowerEs t1 t2 t3 t4 u1 u2 u3 u4) i = some (.int j t) := by
  unfold lowerD at h
  dsimp only at h
  by_cases h1 : i = 256
  · subst h1
    rw [if_pos rfl] at h
    cases h
    exact ⟨u1, by simp [findBy, lowerEs, Value.isInt]⟩
  · by_cases h2 : i = 16
    · subst h2
      rw [if_neg (by decide), if_pos rfl] at h
      cases h
      exact ⟨u2, by simp [findBy, lowerEs, Value.isInt]⟩
    · by_cases h3 : i = 4
      · subst h3
        rw [if_neg (by decide), if_neg (by decide), if_pos rfl] at h
        cases h
        exact ⟨u3, by simp [findBy, lowerEs, Value.isInt]⟩
      · by_cases h4 : i = 2
        · subst h4
          rw [if_neg (by decide), if_neg (by decide), if_neg (by decide), if_pos rfl] at h
          cases h
          exact ⟨u4, by simp [findBy, lowerEs, Value.isInt]⟩
        · rw [if_neg h1, if_neg h2, if_neg h3, if_neg h4] at h
          cases h
theorem lower_int {i : Int} : (∃ j, lowerD (.int i) = .ok (.int j)) ∨ lowerD (.int i) = .stuck := by
  unfold lowerD
  dsimp only
  repeat' split
  all_goals first | exact .inr rfl | exact .inl ⟨_, rfl⟩
def rLower (K : PySem.W.Frag) : L2.R2 := fun x y H Q => ∃ (p : Addr) (i j : Int) (n : Nat) (t1 t2 t3 t4 u1 u2 u3 u4 : Tok), x = .ref p ∧ y = .int i ∧ K.lookup p = some ⟨.type "dict", none, .dict (lowerEs t1 t2 t3 t4 u1 u2 u3 u4) n, #[]⟩ ∧ lowerD (.int i) = .ok (.int j) ∧ Q (.int j) H
theorem ix_lower : IxR X (rLower X.K) := by
  intro value slice pins s σ H x y v u Q I rx ry h hs
  obtain ⟨p, i, j, n, t1, t2, t3, t4, u1, u2, u3, u4, rfl, rfl, hl, hj, q⟩ := h
  obtain rfl : v = Value.ref p := rx
  obtain ⟨t, rfl⟩ := ry
  have hm := lower_map (w := X.w) (prog := X.prog) (I.kIn _ _ hl)
  obtain ⟨tj, hf⟩ := lower_find (t1 := t1) (t2 := t2) (t3 := t3) (t4 := t4) (u1 := u1) (u2 := u2) (u3 := u3) (u4 := u4) hj
  exact tail_any hm.typeIs slot_dict_getitem.lookup (wpAny_getItem_of (intKind_is X.prog X.w i t) hm hf ⟨.int j, H, I.tok _, ⟨tj, rfl⟩, q⟩) hs
theorem se_lower (L : LowerOk X.K X.mg) (hb : SB X E b g) (hg : Gl X "LOWER" := by rfl) (hs : PlainIx b := by exact fun _ _ => rfl) : SE X E (.Subscript (.Name "LOWER" p) b pos) (eUn lowerD g) := by
  obtain ⟨aL, n, t1, t2, t3, t4, u1, u2, u3, u4, hm, hl⟩ := L.ex
  intro G0 H0 env σ G H Q r w
  refine ⟨_, pe_ix ix_lower (pe_glob (v := .ref aL) hg hm rfl) re_pe hs, ?_⟩
  show Re X b σ H (fun y H2 => rLower X.K (.ref aL) y H2 Q)
  refine hb G0 H0 env σ G H _ r ((Wish.bind w).imp fun d G1 H1 e1 q v hv => ?_)
  cases d <;> first | exact (show False from q).elim | skip
  rename_i i
  cases hv.int
  rcases lower_int (i := i) with ⟨j, hj⟩ | hj
  · rw [hj] at q
    exact ⟨aL, i, j, n, t1, t2, t3, t4, u1, u2, u3, u4, rfl, rfl, hl, hj, q G1 H1 (Ext.refl e1.sub) _ (.int _)⟩
  · rw [hj] at q
    exact (show False from q).elim
end
end Cn

namespace Cn
open PySem PySem.Spec PyProof.Rows L2
section
variable {X : Cx} {E : XK}
/-- forget a variable -/
def sDrop (i : Nat) (F : SFn) : SFn := fun env => F (env.set i .no)
theorem sDrop_a {i : Nat} {F : SFn} {env : En} : sDrop i F env = F (env.set i .no) := rfl
theorem ss_drop {sts : List Stmt} {F : SFn} (i : Nat) (h : SSs X E sts F) : SSs X E sts (sDrop i F) := by
  intro G0 H0 env σ G H D r w
  have r2 := r.setNo (i := i) (u := (σ[i]?).getD none)
  have e : σ.set i ((σ[i]?).getD none) = σ := by
    apply List.ext_getElem?
    intro j
    rw [List.getElem?_set]
    split
    · rename_i hij
      subst hij
      split
      · rename_i hl
        rw [List.getElem?_eq_getElem hl]; rfl
      · rename_i hl
        rw [List.getElem?_eq_none (by omega)]
    · rfl
  rw [e] at r2
  exact h G0 H0 _ σ G H D r2 w
end
end Cn

namespace Cn
open PySem PySem.Spec PyProof.Rows L2
def prD (p : Int × Int) : D := .tup [.int p.1, .int p.2]
def toPr : D → Option (Int × Int)
  | .tup [.int a, .int b] => some (a, b)
  | _ => none
def toPrs : List D → Option (List (Int × Int))
  | [] => some []
  | d :: r => match toPr d with
    | some p => (toPrs r).map (p :: ·)
    | none => none
theorem toPr_eq {d : D} {p : Int × Int} (h : toPr d = some p) : d = prD p := by
  unfold toPr at h
  split at h
  · cases h; rfl
  · cases h
/-- not below -/
def leP (p q : Int × Int) : Bool := !SrtO.lexB q p
theorem leP_iff {p q : Int × Int} : leP p q = true ↔ p.1 < q.1 ∨ p.1 = q.1 ∧ p.2 ≤ q.2 := by
  unfold leP
  rw [Bool.not_eq_true', SrtO.lexB_no]
  omega
/-- keys that are pairs -/
def kPrs : List (List Int) → Option (List (Int × Int))
  | [] => some []
  | [a, b] :: r => (kPrs r).map ((a, b) :: ·)
  | _ :: _ => none
theorem kPrs_eq : ∀ {ks : List (List Int)} {ps : List (Int × Int)}, kPrs ks = some ps → ks = ps.map fun p => [p.1, p.2]
  | [], ps, h => by cases h; rfl
  | [a, b] :: r, ps, h => by
    obtain ⟨qs, hq, rfl⟩ := Option.map_eq_some_iff.mp h
    rw [kPrs_eq hq]; rfl
  | [] :: _, _, h => by cases h
  | [_] :: _, _, h => by cases h
  | (_ :: _ :: _ :: _) :: _, _, h => by cases h
def sortD : D → R D
  | .lst ds => match toPrs ds with
    | some ps => .ok (.lst ((ps.mergeSort leP).map prD))
    | none => .stuck
  | .dctT ks => match kPrs ks with
    | some ps => .ok (.lst ((ps.mergeSort leP).map prD))
    | none => .stuck
  | _ => .stuck
/-- the pair that a value stands for -/
def keyV (H : Hp) : V → Int × Int
  | .ref t => match H t with
    | some (.tup [.int a, .int b]) => (a, b)
    | _ => (0, 0)
  | _ => (0, 0)
theorem pairs_of {K : PySem.W.Frag} {G H : Hp} (s : Same G H) : ∀ {xs : List V} {ds : List D} {ps : List (Int × Int)}, RpAll K G xs ds → toPrs ds = some ps →
    (∀ x ∈ xs, (∃ t, x = .ref t ∧ H t = some (.tup [.int (keyV H x).1, .int (keyV H x).2])) ∧ Rp K G x (prD (keyV H x))) ∧ xs.map (keyV H) = ps
  | _, _, ps, .nil, h => by cases h; exact ⟨fun x hx => (by cases hx), rfl⟩
  | _, _, ps, .cons (v := v) (d := d) hv hr, h => by
    unfold toPrs at h
    split at h
    · rename_i p hp
      have hd := toPr_eq hp
      subst hd
      obtain ⟨qs, hq, rfl⟩ := Option.map_eq_some_iff.mp h
      obtain ⟨i1, i2⟩ := pairs_of s hr hq
      cases hv with
      | tup e r =>
        cases r with
        | cons ra r =>
          cases r with
          | cons rb r =>
            cases r
            cases ra
            cases rb
            rename_i a
            have hk : keyV H (.ref a) = p := by
              have e' := s _ _ e
              simp only [keyV, e']
            refine ⟨fun x hx => ?_, by rw [List.map_cons, hk, i2]⟩
            rcases List.mem_cons.mp hx with rfl | hx
            · rw [hk]
              exact ⟨⟨a, rfl, s _ _ e⟩, .tup e (.cons (.int _) (.cons (.int _) .nil))⟩
            · exact i1 x hx
    · cases h
theorem rp_map {K : PySem.W.Frag} {G : Hp} {f : V → D} : ∀ {ys : List V}, (∀ y ∈ ys, Rp K G y (f y)) → RpAll K G ys (ys.map f)
  | [], _ => .nil
  | y :: r, h => .cons (h y (List.mem_cons_self ..)) (rp_map fun z hz => h z (List.mem_cons_of_mem _ hz))
/-! ### sorted of a dict whose keys are pairs -/
def RawD (h : Heap) (d : Addr) (es : Array DictEntry) (ep : Nat) : Prop := ∃ o, h.get? d = some o ∧ o.ExactDict ∧ o.data = .dict es ep
theorem walks_keys {P : Program} {w : World} {A : Around} (hh : A.handled = none) (it d : Addr) (hne : d ≠ it) (es : Array DictEntry) (ep : Nat) :
    PySem.Walks P w A it [it, d] [it] es.size (fun i v => ∃ e, es[i]? = some e ∧ v = e.key) (fun i h => h.IsKeyIter it d i es.size ep ∧ RawD h d es ep) where
  sub := fun b hb => List.mem_singleton.mp hb ▸ List.mem_cons_self
  frame := fun i h h' ⟨q1, o, q2, q3⟩ k => ⟨q1.at fun o z => k it List.mem_cons_self o z, o, k d (List.mem_cons_of_mem _ List.mem_cons_self) o q2, q3⟩
  item := fun i s Q E hi ⟨q1, o, q2, q3, q4⟩ hQ => by
    have hx : es[i]? = some es[i] := Array.getElem?_eq_getElem hi
    refine next_key_item q1 q2 q4 rfl hx fun h' z1 z2 => ?_
    exact hQ _ h' s.toks ⟨_, hx, rfl⟩ ⟨z1, o, (z2.2 d hne).trans q2, q3, q4⟩ fun b u hb z => (z2.2 b fun y => hb (y ▸ List.mem_cons_self)).trans z
  done := fun s Q E ⟨q1, o, q2, q3, q4⟩ hQ => next_key_end hh q1 q2 q4 rfl (Nat.le_refl _) fun h' z => hQ h' s.toks fun b u hb y => z b u (fun y => hb (y ▸ List.mem_cons_self)) y
  self := fun i s Q E ⟨q1, _⟩ hQ => wpAny_pyIter_keyiter q1 hQ
theorem src_keys {P : Program} {w : World} {d : Addr} (hd : (d == sysModules) = false) (es : Array DictEntry) (ep : Nat) : PySem.W.KdlSrc P w "dict" d d es.size (fun i v => ∃ e, es[i]? = some e ∧ v = e.key) (fun h => RawD h d es ep) where
  type := fun s ⟨o, q1, q2, _⟩ => ⟨o, q1, q2.1⟩
  there := fun h ⟨o, q1, _⟩ => ⟨Heap.lt_size q1, Heap.lt_size q1⟩
  keep := fun h h' ⟨o, q1, q2⟩ k => ⟨o, k d (.inl rfl) o q1, q2⟩
  notList := by decide
  notTuple := by decide
  hint := fun A E s Q ⟨o, q1, q2, _⟩ hq => PySem.W.kdl_hint_dict ⟨o, q1, q2.1⟩ hq
  iter := fun A s hh ⟨o, q1, q2, q3⟩ => ⟨_, _, fun E Q hq => iter_keys hd q1 q2 q3 hq, walks_keys hh _ d (Nat.ne_of_lt (Heap.lt_size q1)) es ep, ⟨_, Heap.get?_push_size _ rfl, rfl, rfl⟩, o, Heap.get?_push_of_some _ q1, q2, q3⟩
theorem dT_keys {X : Cx} {pins : List (Addr × Obj)} {σ : L2.St} {H : Hp} {s : Shared} {d : Addr} {kvs : List (List Key × V)} (I : Inv X pins σ H s) (h : H d = some (.dT kvs)) : (d == sysModules) = false ∧ kvs.length ≤ sizeLine ∧ ∃ (es : Array DictEntry) (ep : Nat), RawD s.heap d es ep ∧ es.size = kvs.length ∧
    ∀ (i : Nat) (k : List Key) (v : V), kvs[i]? = some (k, v) → ∃ (en : DictEntry) (q : Addr), es[i]? = some en ∧ en.key = .ref q ∧ H q = some (.tup (k.map kV)) := by
  obtain ⟨z, hs, xs, pr, o, es, ep, ho, hx, hdt, he, _⟩ := I.hok d _ h
  refine ⟨hs, z, es, ep, ⟨o, ho, hx, hdt⟩, ?_, fun i k v e => ?_⟩
  · have l1 : es.size = xs.length := size_of_entries he
    have l2 : kvs.length = xs.length := Paired.length pr
    omega
  · obtain ⟨b, hb, e1, e2, _⟩ := paired_get pr e
    have q := entry_at he i
    rw [hb] at q
    exact ⟨_, b.2.1, q, rfl, e2⟩
def keyB (H : Hp) (u : Value) : Int × Int := keyV H (backV u)
def rSortT : List V → Hp → VK → Prop := fun vs H Q => ∃ (a : Addr) (ps : List (Int × Int)), vs = [.ref a] ∧ H a = some (.dT (ps.map fun p => ([(Sum.inl p.1 : Key), Sum.inl p.2], V.bl true))) ∧
  ∀ (xs ys : List V) (p : Addr), xs.map (keyV H) = ps → (∀ x ∈ xs, ∃ t, x = .ref t ∧ H t = some (.tup [.int (keyV H x).1, .int (keyV H x).2])) → SrtO.Srtd (ltP (keyV H)) ys → SrtO.Stb (ltP (keyV H)) ys xs → H p = none → Q (.ref p) (upd H p (.lst ys))
theorem cr_sortT {X : Cx} (hc : X.calm = true) : CallR X (.builtin "sorted") rSortT := by
  intro pins s σ H xs us Q I r q
  obtain ⟨a, ps, rfl, hH, q⟩ := q
  obtain ⟨u, rfl, ru⟩ := vals1 r
  obtain rfl : u = Value.ref a := ru
  obtain ⟨h1, h2, es, ep, h3, h4, h5⟩ := dT_keys I hH
  rw [List.length_map] at h2 h4
  refine Calls.call_function_entry PyProof.Rows.kind_sorted PyProof.Rows.plain_sorted PyProof.Rows.entry_sorted (PyProof.Rows.args_sorted1 _) ?_
  unfold Builtin.«sorted»
  refine wpAny_bind (m := checkCount "sorted" 1 1 _) (wpAny_pure (wpAny_bind (PySem.W.kdu_collect (A := X.A.in1) (src_keys h1 es ep) (I.ok.hd hc) h3 (by rw [h4]; exact h2) fun h' tk acc hk hacc => ?_)))
  have al : acc.toList.length = ps.length := by rw [Array.length_toList, hacc.1, h4]
  have each : ∀ (j : Nat) (v : Value), acc.toList[j]? = some v → ∃ (t : Addr) (p : Int × Int), ps[j]? = some p ∧ v = .ref t ∧ H t = some (.tup [.int p.1, .int p.2]) := fun j v e => by
    obtain ⟨en, e1, rfl⟩ := hacc.2 j v (by rw [← Array.getElem?_toList]; exact e)
    have hj : j < ps.length := by rw [← al]; exact (List.getElem?_eq_some_iff.mp e).1
    obtain ⟨en2, t, z1, z2, z3⟩ := h5 j [Sum.inl ps[j].1, Sum.inl ps[j].2] (.bl true) (by rw [List.getElem?_map, List.getElem?_eq_getElem hj]; rfl)
    rw [e1] at z1
    cases z1
    exact ⟨t, ps[j], List.getElem?_eq_getElem hj, z2, z3⟩
  have kB : ∀ (t : Addr) (p : Int × Int), H t = some (.tup [.int p.1, .int p.2]) → keyB H (.ref t) = p := fun t p z => by
    show keyV H (.ref t) = p
    simp only [keyV, z]
  have kmap : acc.toList.map (keyB H) = ps := by
    apply List.ext_getElem?
    intro j
    rw [List.getElem?_map]
    cases e : acc.toList[j]? with
    | none =>
      have := List.getElem?_eq_none_iff.mp e
      rw [List.getElem?_eq_none (by omega)]; rfl
    | some v =>
      obtain ⟨t, p, z1, rfl, z3⟩ := each j v e
      rw [z1]
      exact congrArg some (kB t p z3)
  have refs : ∀ v ∈ acc.toList, ∃ t, v = .ref t ∧ H t = some (.tup [.int (keyB H v).1, .int (keyB H v).2]) := fun v hv => by
    obtain ⟨j, hj⟩ := List.mem_iff_getElem?.mp hv
    obtain ⟨t, p, z1, rfl, z3⟩ := each j v hj
    exact ⟨t, rfl, by rw [kB t p z3]; exact z3⟩
  have I1 : Inv X pins σ H { s with heap := h', toks := tk } := I.kept hk
  refine wpAny_bind (wpAny_newList ?_ (by rw [al]; exact h2))
  have hoL : (h'.push (seqObj "list" acc.toList.toArray 0)).get? h'.objs.size = some (seqObj "list" acc.toList.toArray 0) := Heap.get?_push_size _ rfl
  have pairs : ∀ v ∈ acc.toList, Srt.IsPair (h'.push (seqObj "list" acc.toList.toArray 0)) v (keyB H v).1 (keyB H v).2 := fun v hv => by
    obtain ⟨t, rfl, ht⟩ := refs v hv
    obtain ⟨_, its2, r2, o, ho, hcl, n, hd⟩ := I1.hok _ _ ht
    obtain ⟨u1, u2, rfl, ri, rj⟩ := vals2 r2
    obtain ⟨t1, rfl⟩ := ri
    obtain ⟨t2, rfl⟩ := rj
    exact ⟨t, o, t1, t2, n, rfl, Heap.get?_push_of_some _ ho, hcl, hd⟩
  show wpAny _ _ _ _ _ { s with heap := h'.push (seqObj "list" acc.toList.toArray 0), toks := tk }
  refine wpAny_bind (wpAny_holding (wpAny_call_entry PyProof.Rows.slot_list_sort ⟨_, hoL, rfl⟩ PyProof.Rows.entry_list_sort
    (SrtO.list_sort_ord (s := { s with heap := h'.push (seqObj "list" acc.toList.toArray 0), toks := tk }) (SrtO.swo_lex (keyB H)) hoL (by rw [al]; exact h2) (fun z2 => SrtO.pairs_sortableO (by omega) pairs fun o e => ?_) fun out s1 s2 => ⟨_, rfl, ?_⟩)
    (PyProof.Rows.args_list_sort _)))
  · have e' : some o = some (seqObj "list" acc.toList.toArray 0) := e.symm.trans hoL
    cases e'
    intro z
    exact absurd (Value.type.inj z) (by decide)
  · obtain ⟨e', he'⟩ := PyProof.Rows.sortedHeap_at (vs := acc.toList) (out := out.toArray) hoL
    have h6 : ∀ u ∈ out, ∃ a, u = Value.ref a := fun u hu => by
      obtain ⟨t, z, _⟩ := refs u (s2.perm.mem_iff.mp hu)
      exact ⟨t, z⟩
    have hb : SrtO.Stb (ltP (keyV H)) (out.map backV) (acc.toList.map backV) := SrtO.Stb.map (ltP_swo (keyV H)) backV s2
    have hlen : (out.map backV).length ≤ sizeLine := by
      rw [List.length_map, s2.perm.length_eq, al]
      exact h2
    refine wpAny_pure ⟨_, rfl, .ref h'.objs.size, upd H h'.objs.size (.lst (out.map backV)), I1.laid (t' := tk) (fun b u e => ?_) (Nat.le_refl _)
      (show ObjOk X.prog X.w _ _ _ (.lst (out.map backV)) from ⟨hlen, out, e', vals_back h6, he'⟩), rfl, q (acc.toList.map backV) _ _ (by rw [List.map_map]; exact kmap) (fun x hx => ?_) (SrtO.srtd_map s1) hb (I1.hok.fresh (Nat.le_refl _))⟩
    · have hb : b < h'.objs.size := Heap.lt_size e
      rw [PyProof.Rows.sortedHeap_old (Nat.ne_of_lt hb) (by rw [size_push']; exact Nat.lt_succ_of_lt hb)]
      exact Heap.get?_push_of_some _ e
    · obtain ⟨v, hv, rfl⟩ := List.mem_map.mp hx
      obtain ⟨t, rfl, ht⟩ := refs v hv
      exact ⟨t, rfl, ht⟩
theorem sorted_eq {k : V → Int × Int} {ys xs : List V} {ps : List (Int × Int)} (h1 : xs.map k = ps) (h2 : SrtO.Srtd (ltP k) ys) (h3 : SrtO.Stb (ltP k) ys xs) : ys.map k = ps.mergeSort leP := by
  refine List.Perm.eq_of_pairwise (le := fun a b => leP a b = true) (fun a b _ _ z1 z2 => ?_) ?_ ?_ ?_
  · have z1 := leP_iff.mp z1
    have z2 := leP_iff.mp z2
    exact Prod.ext (by omega) (by omega)
  · rw [List.pairwise_map]
    exact h2.imp fun {x y} h => by
      have h' : SrtO.lexB (k y) (k x) = false := h
      unfold leP; rw [h']; rfl
  · exact List.pairwise_mergeSort (fun a b c z1 z2 => by
      have z1 := leP_iff.mp z1
      have z2 := leP_iff.mp z2
      exact leP_iff.mpr (by omega)) (fun a b => by
      rw [Bool.or_eq_true, leP_iff, leP_iff]
      omega) ps
  · rw [← h1]
    exact (h3.perm.map _).trans (List.mergeSort_perm _ _).symm
section
variable {X : Cx} {E : XK}
theorem cf_sorted (hc : X.calm = true) : CF X E (.builtin "sorted") sortD := by
  intro dx
  cases dx <;> first
    | exact ⟨_, callr_false, fun _ _ _ _ _ _ w => (show False from w).elim⟩
    | skip
  · rename_i ds
    refine ⟨_, cr_sortedPO, fun G H vx Q s bx w => ?_⟩
    obtain ⟨a, xs, rfl, hp, hr⟩ := bx.lst s
    unfold sortD at w
    dsimp only at w
    split at w
    · rename_i ps hps
      obtain ⟨i1, i2⟩ := pairs_of s hr hps
      refine ⟨a, xs, keyV H, rfl, SqL.of hp, fun x hx => (i1 x hx).1, fun ys p hs hst hpn => ?_⟩
      have e : ys.map (keyV H) = ps.mergeSort leP := by
        refine List.Perm.eq_of_pairwise (le := fun a b => leP a b = true) (fun a b _ _ h1 h2 => ?_) ?_ ?_ ?_
        · have h1 := leP_iff.mp h1
          have h2 := leP_iff.mp h2
          exact Prod.ext (by omega) (by omega)
        · rw [List.pairwise_map]
          exact hs.imp fun {x y} h => by
            have h' : SrtO.lexB (keyV H y) (keyV H x) = false := h
            unfold leP; rw [h']; rfl
        · exact List.pairwise_mergeSort (fun a b c h1 h2 => by
            have h1 := leP_iff.mp h1
            have h2 := leP_iff.mp h2
            exact leP_iff.mpr (by omega)) (fun a b => by
            rw [Bool.or_eq_true, leP_iff, leP_iff]
            omega) ps
        · rw [← i2]
          exact (hst.perm.map _).trans (List.mergeSort_perm _ _).symm
      have hr2 : RpAll X.K G ys ((ps.mergeSort leP).map prD) := by
        rw [← e, List.map_map]
        exact rp_map fun y hy => (i1 y (hst.perm.mem_iff.mp hy)).2
      exact w G _ (Ext.newOwn s hpn) p _ hpn upd_same (s.free hpn) ⟨_, rfl, hr2⟩
    · exact (show False from w).elim
  · rename_i ks
    refine ⟨_, cr_sortT hc, fun G H vx Q s bx w => ?_⟩
    obtain ⟨a, rfl, hp⟩ := bx.dctT s
    unfold sortD at w
    dsimp only at w
    split at w
    · rename_i ps hps
      have ek := kPrs_eq hps
      subst ek
      rw [List.map_map] at hp
      refine ⟨a, ps, rfl, hp, fun xs ys p h1 h2 h3 h4 hpn => ?_⟩
      have e := sorted_eq h1 h3 h4
      have h5 : ∀ y ∈ ys, ∃ t, y = .ref t ∧ H t = some (.tup [.int (keyV H y).1, .int (keyV H y).2]) := fun y hy => h2 y (h4.perm.mem_iff.mp hy)
      classical
      have gT : ∀ t, V.ref t ∈ ys → ∃ zs, H t = some (.tup zs) := fun t ht => by
        obtain ⟨t', z, z2⟩ := h5 _ ht
        cases z
        exact ⟨_, z2⟩
      let G2 : Hp := fun t => if V.ref t ∈ ys then H t else G t
      have g1 : ∀ t, V.ref t ∈ ys → G2 t = H t := fun t ht => if_pos ht
      have g2 : ∀ t, ¬ V.ref t ∈ ys → G2 t = G t := fun t ht => if_neg ht
      have np : ¬ V.ref p ∈ ys := fun z => by
        obtain ⟨zs, z2⟩ := gT p z
        rw [hpn] at z2
        cases z2
      have ext : Ext G H G2 (upd H p (.lst ys)) := by
        refine ⟨fun t u z => ?_, Same.upd hpn, fun t hn _ => ?_, fun t u z => ?_⟩
        · by_cases ht : V.ref t ∈ ys
          · rw [g1 t ht] at z
            rw [upd_ne (ne_of_none z hpn)]
            exact z
          · rw [g2 t ht] at z
            rw [upd_ne (ne_of_none (s _ _ z) hpn)]
            exact s _ _ z
        · refine g2 t fun ht => ?_
          obtain ⟨zs, z⟩ := gT t ht
          exact hn zs z
        · by_cases ht : V.ref t ∈ ys
          · rw [g1 t ht]
            exact s _ _ z
          · rw [g2 t ht]
            exact z
      refine w G2 _ ext p _ hpn upd_same ((g2 p np).trans (s.free hpn)) ⟨ys, rfl, ?_⟩
      rw [← e, List.map_map]
      refine rp_map fun y hy => ?_
      obtain ⟨t, z1, z2⟩ := h5 y hy
      have z3 : G2 t = some (.tup [.int (keyV H y).1, .int (keyV H y).2]) := (g1 t (z1 ▸ hy)).trans z2
      subst z1
      show Rp X.K G2 (.ref t) (prD (keyV H (.ref t)))
      exact .tup z3 (.cons (.int _) (.cons (.int _) .nil))
    · exact (show False from w).elim
end
end Cn

namespace Cn
open PySem PySem.Spec PyProof.Rows L2
/-! ### reckoning with denotations -/
theorem bind_ok {α β : Type} {a : α} {f : α → R β} : (R.ok a).bind f = f a := rfl
theorem bind_ex {α β : Type} {c : Str} {f : α → R β} : (R.ex c : R α).bind f = .ex c := rfl
theorem rOut_ok {d : D} {k : D → Out} : rOut (.ok d) k = k d := rfl
theorem rOut_ex {c : Str} {k : D → Out} : rOut (.ex c) k = .ex c := rfl
section
variable {o o' : D → D → R D} {u : D → R D} {f g h t e : EF} {fa fb : AF} {env : En} {i j n : Nat} {d : D} {F F' : SFn} {fn : List D → R D} {lo hi : OF} {c : Str} {ga : D → En → Option En}
theorem eV_a : eV i env = match env[i]? with | some (.val d) => .ok d | _ => .stuck := rfl
theorem eO_a : eO i env = match env[i]? with | some (.val d) => .ok d | some (.own d) => .ok d | _ => .stuck := rfl
theorem eC_a : eC d env = .ok d := rfl
theorem eOp_a : eOp o f g env = (f env).bind fun x => (g env).bind fun y => o x y := rfl
theorem eUn_a : eUn u f env = (f env).bind u := rfl
theorem eAnd_a : eAnd f g env = (f env).bind fun x => match x with | .bl true => g env | .bl false => .ok (.bl false) | _ => .stuck := rfl
theorem eOr_a : eOr f g env = (f env).bind fun x => match x with | .bl false => g env | .bl true => .ok (.bl true) | _ => .stuck := rfl
theorem eChain_a : eChain o o' f g h env = (f env).bind fun x => (g env).bind fun y => (o x y).bind fun z => match z with
  | .bl true => (h env).bind fun w => o' y w
  | .bl false => .ok (.bl false)
  | _ => .stuck := rfl
theorem aNil_a : aNil env = .ok [] := rfl
theorem aCons_a : aCons f fa env = (f env).bind fun x => (fa env).bind fun xs => .ok (x :: xs) := rfl
theorem eLst_a : eLst fa env = (fa env).bind fun ds => .ok (.lst ds) := rfl
theorem eTup_a : eTup fa env = (fa env).bind fun ds => .ok (.tup ds) := rfl
theorem eCall_a : eCall fn fa env = (fa env).bind fn := rfl
theorem eCallB_a : eCallB fn fa env = (fa env).bind fun ds => if ds.all noDct = true then flatR (fn ds) else .stuck := rfl
theorem eSl_a : eSl f lo hi env = (f env).bind fun x => (lo env).bind fun l => (hi env).bind fun u => match x with | .lst ds => .ok (.lst (cutL ds l u)) | _ => .stuck := rfl
theorem oNone_a : oNone env = .ok none := rfl
theorem oSome_a : oSome f env = (f env).bind fun d => match d with | .int i => .ok (some i) | _ => .stuck := rfl
theorem eDict1_a : eDict1 f env = (f env).bind fun d => match d with | .int i => .ok (.dct [i]) | _ => .stuck := rfl
theorem eComp_a : eComp fa j t e env = (fa env).bind fun ds => if ds.length ≤ LIM then (match compL j t e env ds with | .ok vs => .ok (.lst vs) | _ => .stuck) else .stuck := rfl
theorem eYes_a : eYes env = .ok (.bl true) := rfl
theorem iL_a : iL f env = (f env).bind seqD := rfl
theorem iT_a : iT f env = (f env).bind tupD := rfl
theorem iR1_a : iR1 f env = (f env).bind rg1D := rfl
theorem iR2_a : iR2 f g env = (f env).bind fun x => (g env).bind fun y => rg2D x y := rfl
theorem iR3_a : iR3 f g h env = (f env).bind fun x => (g env).bind fun y => (h env).bind fun z => rg3D x y z := rfl
theorem sNil_a : sNil env = .nx env := rfl
theorem sSeq_a : sSeq F F' env = match F env with | .nx e => F' e | o => o := rfl
theorem sIf_a : sIf f F F' env = rOut (f env) fun d => match d with | .bl true => F env | .bl false => F' env | _ => .stuck := rfl
theorem sAsg_a : sAsg i f env = rOut (f env) fun d => .nx (env.set i (.val d)) := rfl
theorem sOwn_a : sOwn i f env = rOut (f env) fun d => .nx (env.set i (.own d)) := rfl
theorem sRet_a : sRet f env = rOut (f env) fun d => .rt d := rfl
theorem sRetO_a : sRetO i env = match env[i]? with | some (.val d) => .rt d | some (.own d) => .rt d | _ => .stuck := rfl
theorem sRaise_a : sRaise c env = .ex c := rfl
theorem sExpr_a : sExpr f env = rOut (f env) fun _ => .nx env := rfl
theorem frz_a : frz i env = match env[i]? with | some (.own d) => env.set i (.val d) | _ => env := rfl
theorem sFrz_a : sFrz i F env = F (frz i env) := rfl
theorem sApp_a : sApp i f env = match env[i]? with
  | some (.own (.lst ds)) => rOut (f env) fun d => if ds.length < LIM then .nx (env.set i (.own (.lst (ds ++ [d])))) else .stuck
  | _ => .stuck := rfl
theorem sExt_a : sExt i f env = match env[i]? with
  | some (.own (.lst ds)) => rOut (f env) fun d => match d with
    | .lst es => if ds.length + es.length ≤ LIM then .nx (env.set i (.own (.lst (ds ++ es)))) else .stuck
    | _ => .stuck
  | _ => .stuck := rfl
theorem sPut_a {fk fv : EF} : sPut i fk fv env = match env[i]? with
  | some (.own (.lst ds)) => rOut (fv env) fun v => rOut (fk env) fun k => match k with
    | .int n => match ixN ds.length n with
      | some m => .nx (env.set i (.own (.lst (ds.set m v))))
      | none => .stuck
    | _ => .stuck
  | _ => .stuck := rfl
theorem sPutD_a {fk : EF} : sPutD i fk env = match env[i]? with
  | some (.own (.dct ks)) => rOut (fk env) fun k => match k with
    | .int n => if ks.length < LIM then .nx (env.set i (.own (.dct (addK ks n)))) else .stuck
    | _ => .stuck
  | some (.own (.dctT ks)) => rOut (fk env) fun k => match k with
    | .tup xs => match toInts xs with
      | some ns => if ks.length < LIM then .nx (env.set i (.own (.dctT (addK ks ns)))) else .stuck
      | none => .stuck
    | _ => .stuck
  | _ => .stuck := rfl
theorem sFor_a : sFor fa ga F env = match fa env with | .ok ds => forL ga F ds env | .ex c => .ex c | .stuck => .stuck := rfl
theorem sWhile_a : sWhile n f F env = whileF f F n env := rfl
theorem tgN_a : tgN j d env = some (env.set j (.val d)) := rfl
theorem runF_a {ds : List D} : runF n F ds = match F (ds.map Sl.val ++ List.replicate (n - ds.length) Sl.no) with
  | .nx _ => .ok .non
  | .rt d => .ok d
  | .ex c => .ex c
  | _ => .stuck := rfl
theorem forL_nil : forL ga F [] env = .nx env := rfl
theorem forL_cons {r : List D} : forL ga F (d :: r) env = match ga d env with
    | none => .stuck
    | some env1 => match F env1 with
      | .nx e => forL ga F r e
      | .ct e => forL ga F r e
      | .bk e => .nx e
      | .rt d => .rt d
      | .ex c => .ex c
      | .stuck => .stuck := rfl
theorem whileF_s : whileF f F (n + 1) env = rOut (f env) fun d => match d with
    | .bl true => match F env with
      | .nx e => whileF f F n e
      | .ct e => whileF f F n e
      | .bk e => .nx e
      | .rt d => .rt d
      | .ex c => .ex c
      | .stuck => .stuck
    | .bl false => .nx env
    | _ => .stuck := rfl
theorem compL_nil : compL j t e env [] = .ok [] := rfl
theorem compL_cons {r : List D} : compL j t e env (d :: r) = match t (env.set j (.val d)) with
    | .ok (.bl true) => match e (env.set j (.val d)) with
      | .ok v => (compL j t e env r).bind fun vs => .ok (v :: vs)
      | _ => .stuck
    | .ok (.bl false) => compL j t e env r
    | _ => .stuck := rfl
end
theorem kit_ii : kitB "int" "int" = some true := by decide +kernel
theorem kit_bi : kitB "bool" "int" = some true := by decide +kernel
theorem kit_ib : kitB "int" "bool" = some false := by decide +kernel
theorem kit_bb : kitB "bool" "bool" = some true := by decide +kernel
theorem kit_ll : kitB "list" "list" = some true := by decide +kernel
theorem kit_tt : kitB "tuple" "tuple" = some true := by decide +kernel
theorem kit_ss : kitB "str" "str" = some true := by decide +kernel
theorem isi_ii {i : Int} : isiD "int" (.int i) = .ok (.bl true) := by simp only [isiD, tyName, kit_ii]
theorem isi_ib {i : Int} : isiD "bool" (.int i) = .ok (.bl false) := by simp only [isiD, tyName, kit_ib]
theorem isi_bb {i : Bool} : isiD "bool" (.bl i) = .ok (.bl true) := by simp only [isiD, tyName, kit_bb]
theorem isi_ll {i : List D} : isiD "list" (.lst i) = .ok (.bl true) := by simp only [isiD, tyName, kit_ll]
theorem isi_tt {i : List D} : isiD "tuple" (.tup i) = .ok (.bl true) := by simp only [isiD, tyName, kit_tt]
theorem isi_ss {i : Str} : isiD "str" (.str i) = .ok (.bl true) := by simp only [isiD, tyName, kit_ss]
theorem eqD_ii {i j : Int} : eqD (.int i) (.int j) = .ok (.bl (decide (i = j))) := rfl
theorem neD_ii {i j : Int} : neD (.int i) (.int j) = .ok (.bl (!decide (i = j))) := rfl
theorem eqD_ss {i j : Str} : eqD (.str i) (.str j) = .ok (.bl (decide (i = j))) := rfl
theorem neD_ss {i j : Str} : neD (.str i) (.str j) = .ok (.bl (!decide (i = j))) := rfl
theorem eqD_bb {i j : Bool} : eqD (.bl i) (.bl j) = .ok (.bl (decide (i = j))) := rfl
theorem neD_bb {i j : Bool} : neD (.bl i) (.bl j) = .ok (.bl (!decide (i = j))) := rfl
theorem modD_pos {i j : Int} (h : 0 < j) : modD (.int i) (.int j) = .ok (.int (i % j)) := by simp only [modD, if_pos h]
theorem fdivD_pos {i j : Int} (h : 0 < j ∧ j < 1073741824) : fdivD (.int i) (.int j) = .ok (.int (i / j)) := by simp only [fdivD, if_pos (divOk_iff.mpr h)]
theorem xorD_pos {i j : Int} (h : 0 ≤ i ∧ 0 ≤ j) : xorD (.int i) (.int j) = .ok (.int (xorI i j)) := by simp only [xorD, if_pos h]
theorem mulD_r {j : Int} (i : Int) (h : -(2 ^ 64) < j ∧ j < 2 ^ 64) : mulD (.int i) (.int j) = .ok (.int (i * j)) := by
  have : (inM i || inM j) = true := by rw [inM_of h, Bool.or_true]
  simp only [mulD, if_pos this]
theorem mulD_l {i : Int} (j : Int) (h : -(2 ^ 64) < i ∧ i < 2 ^ 64) : mulD (.int i) (.int j) = .ok (.int (i * j)) := by
  have : (inM i || inM j) = true := by rw [inM_of h, Bool.true_or]
  simp only [mulD, if_pos this]
theorem xorI_nn {i j : Int} : 0 ≤ xorI i j := by unfold xorI; omega
theorem xorI_lt {i j : Int} {k : Nat} (hi : i < ((2 ^ k : Nat) : Int)) (hj : j < ((2 ^ k : Nat) : Int)) : xorI i j < ((2 ^ k : Nat) : Int) := by
  unfold xorI
  have hp : 0 < 2 ^ k := Nat.two_pow_pos k
  generalize hc : 2 ^ k = c at *
  have h1 : i.toNat < 2 ^ k := by rw [hc]; omega
  have h2 : j.toNat < 2 ^ k := by rw [hc]; omega
  have := Nat.xor_lt_two_pow h1 h2
  rw [hc] at this
  omega
theorem xorI_16 {i j : Int} (hi : i < 65536) (hj : j < 65536) : xorI i j < 65536 := xorI_lt (k := 16) hi hj
theorem xorI_comm (i j : Int) : xorI i j = xorI j i := by unfold xorI; rw [Nat.xor_comm]
/-- the k-th number of the script, or nought -/
def cell (ns : List Int) (k : Nat) : Int := ns.getD k 0
theorem atI_cell {ns : List Int} {k : Nat} (h : k < ns.length) : atI ns (k : Int) = some (cell ns k) := by
  refine atI_nat ?_
  unfold cell
  rw [List.getD_eq_getElem?_getD, List.getElem?_eq_getElem h]
  rfl
theorem cell_out {ns : List Int} {k : Nat} (h : ¬ k < ns.length) : cell ns k = 0 := by
  unfold cell
  rw [List.getD_eq_getElem?_getD, List.getElem?_eq_none (by omega)]
  rfl
end Cn

namespace Cn
open PySem PySem.Spec PyProof.Rows L2

/-! ### what is beside the clean part: frames -/
def OwnAt (env : En) (σ : L2.St) (a : Addr) : Prop := ∃ (i : Nat) (d : D), env[i]? = some (.own d) ∧ σ[i]? = some (some (.ref a))
open Classical in
noncomputable def hideOwn (env : En) (σ : L2.St) (H : Hp) : Hp := fun a => if OwnAt env σ a then none else H a
section
variable {K : PySem.W.Frag} {G0 H0 G H G' H' H1 G3 : Hp} {env env' : En} {σ σ' : L2.St} {a : Addr} {d : D}
theorem hide_in (h : ¬ OwnAt env σ a) : hideOwn env σ H a = H a := if_neg h
theorem hide_out (h : OwnAt env σ a) : hideOwn env σ H a = none := if_pos h
theorem hide_sub : Same (hideOwn env σ H) H := fun a u q => by
  by_cases h : OwnAt env σ a
  · rw [hide_out h] at q; cases q
  · rw [hide_in h] at q; exact q
theorem Rep.ownAt (r : Rep K G0 H0 env σ G H) (h : OwnAt env σ a) : ∃ o, H a = some o ∧ G a = none ∧ H0 a = none ∧ ∀ xs, o ≠ .tup xs := by
  obtain ⟨i, d, h1, h2⟩ := h
  obtain ⟨p, o, g1, g2, g3, g4, g5⟩ := r.own i d h1
  rw [g1] at h2
  cases h2
  exact ⟨o, g2, g3, g4, g5.nt⟩
theorem Rep.hideG (r : Rep K G0 H0 env σ G H) : Same G (hideOwn env σ H) := fun a u q => by
  rw [hide_in (fun z => by
    obtain ⟨o, _, g, _⟩ := r.ownAt z
    rw [q] at g; cases g)]
  exact r.ext.sub a u q
theorem Rep.hide0 (r : Rep K G0 H0 env σ G H) : Same H0 (hideOwn env σ H) := fun a u q => by
  rw [hide_in (fun z => by
    obtain ⟨o, _, _, g, _⟩ := r.ownAt z
    rw [q] at g; cases g)]
  exact r.ext.hh a u q
theorem Rep.rebase (r : Rep K G0 H0 env σ G H) : Rep K G (hideOwn env σ H) env σ G H :=
  ⟨r.len, ⟨r.ext.sub, hide_sub, fun _ _ _ => rfl, Same.refl G⟩, r.val, fun i d h =>
    let ⟨p, o, h1, h2, h3, _, h5⟩ := r.own i d h
    ⟨p, o, h1, h2, h3, hide_out ⟨i, d, h, h1⟩, h5⟩, r.apart⟩
theorem ext_unbase (e : Ext G0 H0 G H) (s : Same H0 H1) (e' : Ext G H1 G' H') : Ext G0 H0 G' H' :=
  ⟨e'.sub, s.trans e'.hh, fun a hn ha => by
    have h1 : H1 a = H0 a := by
      cases q : H0 a with
      | none => exact (ha q).elim
      | some o => exact s a o q
    rw [e'.gg a (by rw [h1]; exact hn) (by rw [h1]; exact ha), e.gg a hn ha], e.sm.trans e'.sm⟩
theorem Rep.unbase (e : Ext G0 H0 G H) (s : Same H0 H1) (r : Rep K G H1 env σ G' H') : Rep K G0 H0 env σ G' H' :=
  ⟨r.len, ext_unbase e s r.ext, r.val, fun i d h =>
    let ⟨p, o, h1, h2, h3, h4, h5⟩ := r.own i d h
    ⟨p, o, h1, h2, h3, s.free h4, h5⟩, r.apart⟩
/-- nothing of it becomes clean -/
theorem ext_flat (s : Same G H) (h : Same H H') : Ext G H G H' := ⟨s.trans h, h, fun _ _ _ => rfl, Same.refl G⟩
/-- what stands at a is d, beside the clean part -/
structure Priv (K : PySem.W.Frag) (H0 : Hp) (env : En) (σ : L2.St) (G H : Hp) (a : Addr) (d : D) : Prop where
  ex : ∃ Gp : Hp, Same Gp H ∧ Rp K Gp (.ref a) d ∧ ∀ b o, Gp b = some o → (∀ xs, o ≠ .tup xs) → G b = none ∧ H0 b = none ∧ ¬ OwnAt env σ b
theorem Priv.frame (r : Rep K G0 H0 env σ G H) (p : Priv K H0 env σ G H a d) (r' : Rep K G (hideOwn env σ H) env' σ' G' H') : Priv K H0 env' σ' G' H' a d := by
  obtain ⟨Gp, h1, h2, h3⟩ := p.ex
  have key : ∀ b o, Gp b = some o → hideOwn env σ H b = some o := fun b o q => by
    rw [hide_in]
    · exact h1 b o q
    · intro z
      obtain ⟨o', g1, _, _, g4⟩ := r.ownAt z
      rw [h1 b o q] at g1
      cases g1
      exact (h3 b o q g4).2.2 z
  refine ⟨Gp, fun b o q => r'.ext.hh b o (key b o q), h2, fun b o q n => ⟨?_, (h3 b o q n).2.1, fun z => ?_⟩⟩
  · rw [r'.ext.gg b (fun xs z => by rw [key b o q] at z; exact n xs (Option.some.inj z)) (by rw [key b o q]; simp)]
    exact (h3 b o q n).1
  · obtain ⟨o', _, _, g3, _⟩ := r'.ownAt z
    rw [key b o q] at g3
    cases g3
theorem Priv.flat (p : Priv K H0 env σ G H a d) (h : Same H H') : Priv K H0 env σ G H' a d :=
  let ⟨Gp, h1, h2, h3⟩ := p.ex
  ⟨Gp, h1.trans h, h2, h3⟩
/-- the clean part with what stands beside it -/
theorem Priv.join {i : Nat} (r : Rep K G0 H0 env σ G H) (he : env[i]? = some (.val (.err a))) (p : Priv K H0 env σ G H a d) : ∃ G3, Rep K G3 (hideOwn env σ H) (env.set i (.val d)) σ G3 H := by
  obtain ⟨Gp, g1, g2, g3⟩ := p.ex
  have sG : Same G (fun b => match G b with | some u => some u | none => Gp b) := fun b u q => by
    show (match G b with | some u => some u | none => Gp b) = some u
    rw [q]
  have s3 : Same (fun b => match G b with | some u => some u | none => Gp b) H := fun b u q => by
    have q' : (match G b with | some u => some u | none => Gp b) = some u := q
    cases z : G b with
    | some w => rw [z] at q'; rw [← q']; exact r.ext.sub b w z
    | none => rw [z] at q'; exact g1 b u q'
  have sP : Same Gp (fun b => match G b with | some u => some u | none => Gp b) := fun b u q => by
    show (match G b with | some u => some u | none => Gp b) = some u
    cases z : G b with
    | some w =>
      have z1 := r.ext.sub b w z
      rw [g1 b u q] at z1
      exact z1.symm
    | none => exact q
  refine ⟨_, ⟨by rw [List.length_set, r.len], ⟨s3, hide_sub, fun _ _ _ => rfl, Same.refl _⟩, fun j e hj => ?_, fun j e hj => ?_, fun j k d1 d2 q h1 h2 h3 h4 => ?_⟩⟩
  · rcases env_set_case hj with ⟨z, _, z2⟩ | ⟨_, hj⟩
    · subst z
      cases z2
      obtain ⟨v, h1, h2⟩ := r.val i _ he
      cases h2
      exact ⟨_, h1, g2.mono sP⟩
    · obtain ⟨v, h1, h2⟩ := r.val j e hj
      exact ⟨v, h1, h2.mono sG⟩
  · rcases env_set_case hj with ⟨_, _, z⟩ | ⟨_, hj⟩
    · cases z
    · obtain ⟨p, o, h1, h2, h3, h4, h5⟩ := r.own j e hj
      refine ⟨p, o, h1, h2, ?_, hide_out ⟨j, e, hj, h1⟩, h5.mono sG⟩
      show (match G p with | some u => some u | none => Gp p) = none
      rw [h3]
      cases z : Gp p with
      | none => rfl
      | some o' =>
        have z1 := g1 p o' z
        rw [h2] at z1
        cases z1
        exact ((g3 p o z h5.nt).2.2 ⟨j, e, hj, h1⟩).elim
  · rcases env_set_case h1 with ⟨_, _, z⟩ | ⟨_, h1⟩
    · cases z
    rcases env_set_case h2 with ⟨_, _, z⟩ | ⟨_, h2⟩
    · cases z
    exact r.apart j k d1 d2 q h1 h2 h3 h4
/-- the heap is changed beside all that is known -/
theorem Rep.heap (r : Rep K G0 H0 env σ G H) (h : ∀ b, G b ≠ none ∨ H0 b ≠ none ∨ OwnAt env σ b → H' b = H b) : Rep K G0 H0 env σ G H' :=
  ⟨r.len, ⟨fun b u q => by rw [h b (.inl (by rw [q]; simp))]; exact r.ext.sub b u q, fun b u q => by rw [h b (.inr (.inl (by rw [q]; simp)))]; exact r.ext.hh b u q, r.ext.gg, r.ext.sm⟩, r.val, fun i d hi =>
    let ⟨p, o, h1, h2, h3, h4, h5⟩ := r.own i d hi
    ⟨p, o, h1, by rw [h p (.inr (.inr ⟨i, d, hi, h1⟩))]; exact h2, h3, h4, h5⟩, r.apart⟩
theorem own_set {j : Nat} (hs : ∀ k, k ≠ j → σ'[k]? = σ[k]?) (h : OwnAt (env.set j .no) σ' a) : OwnAt env σ a := by
  obtain ⟨k, d, h1, h2⟩ := h
  rcases env_set_case h1 with ⟨_, _, z⟩ | ⟨n, h1⟩
  · cases z
  · exact ⟨k, d, h1, by rw [← hs k (Ne.symm n)]; exact h2⟩
/-- one slot is forgotten, whatever stands there -/
theorem Rep.slot {j : Nat} (r : Rep K G0 H0 env σ G H) (hl : σ'.length = σ.length) (hs : ∀ k, k ≠ j → σ'[k]? = σ[k]?) : Rep K G0 H0 (env.set j .no) σ' G H where
  len := by rw [List.length_set, hl, r.len]
  ext := r.ext
  val := fun k e hk => by
    rcases env_set_case hk with ⟨_, _, z⟩ | ⟨q, hk⟩
    · cases z
    · rw [hs k (Ne.symm q)]; exact r.val k e hk
  own := fun k e hk => by
    rcases env_set_case hk with ⟨_, _, z⟩ | ⟨q, hk⟩
    · cases z
    · rw [hs k (Ne.symm q)]; exact r.own k e hk
  apart := fun k l d1 d2 p h1 h2 h3 h4 => by
    rcases env_set_case h1 with ⟨_, _, z⟩ | ⟨n1, h1⟩
    · cases z
    rcases env_set_case h2 with ⟨_, _, z⟩ | ⟨n2, h2⟩
    · cases z
    rw [hs k (Ne.symm n1)] at h3
    rw [hs l (Ne.symm n2)] at h4
    exact r.apart k l d1 d2 p h1 h2 h3 h4
end

/-! ### statements behind a new thing that is only one's own -/
def SSsP (X : Cx) (E : XK) (sts : List Stmt) (i : Nat) (d : D) (F : Addr → SFn) : Prop := ∀ (G0 H0 : Hp) (env : En) (σ : L2.St) (G H : Hp) (D : Ends) (a : Addr), Rep X.K G0 H0 env σ G H → env[i]? = some (.val (.err a)) → Priv X.K H0 env σ G H a d →
  WishS X.mg E X.K G0 H0 G D (F a env) → Rss X sts D σ H
def sSeqP (i : Nat) (F : SFn) (F' : Addr → SFn) : Addr → SFn := fun a env => match F env with
  | .nx e => (match e[i]? with
    | some (.val (.err b)) => if b = a then F' a e else .stuck
    | _ => .stuck)
  | o => o
def sIfP (i : Nat) (d : D) (f : EF) (A : SFn) (F' : Addr → SFn) : Addr → SFn := fun a env => rOut (f (env.set i (.val d))) fun z => match z with
  | .bl true => (match A env with
    | .rt v => .rt v
    | .ex c => .ex c
    | _ => .stuck)
  | .bl false => F' a env
  | _ => .stuck
section
variable {X : Cx} {E : XK} {st : Stmt} {sts rest : List Stmt} {i : Nat} {d : D} {F A : SFn} {F' : Addr → SFn} {c : Expr} {f : EF} {pos : Pos}
theorem p_cons (h1 : SS X E st F) (h2 : SSsP X E rest i d F') : SSsP X E (st :: rest) i d (sSeqP i F F') := by
  intro G0 H0 env σ G H D a r he p w
  refine ⟨_, pss_cons rs_ps rss_pss, ?_⟩
  refine h1 G (hideOwn env σ H) env σ G H { D with nx := Rss X rest D } r.rebase ?_
  unfold sSeqP at w
  revert w
  cases F env with
  | nx e =>
    intro w σ' G' H' r' s
    dsimp only at w
    split at w
    · rename_i b hb
      by_cases q : b = a
      · subst q
        rw [if_pos rfl] at w
        exact h2 G0 H0 e σ' G' H' D b (r'.unbase r.ext r.hide0) hb (p.frame r r') (WishS.up s w)
      · rw [if_neg q] at w; exact (show False from w).elim
    · exact (show False from w).elim
  | rt d => exact fun w v G' H' e hv => w v G' H' (ext_unbase r.ext r.hide0 e) hv
  | bk e => exact fun w σ' G' H' r' s => w σ' G' H' (r'.unbase r.ext r.hide0) s
  | ct e => exact fun w σ' G' H' r' s => w σ' G' H' (r'.unbase r.ext r.hide0) s
  | ex c => exact fun w G' H' C e hc => w G' H' C (ext_unbase r.ext r.hide0 e) hc
  | stuck => exact fun w => w
theorem p_drop (h : SSs X E sts F) : SSsP X E sts i d (fun _ => F) := fun G0 H0 env σ G H D a r _ _ w => h G0 H0 env σ G H D r w
theorem p_if (hc : ST X E c f) (ha : SSs X E sts A) (hr : SSsP X E rest i d F') : SSsP X E (.If c sts [] pos :: rest) i d (sIfP i d f A F') := by
  intro G0 H0 env σ G H D a r he p w
  refine ⟨_, pss_cons (ps_if rt_pt rss_pss rss_pss) rss_pss, ?_⟩
  obtain ⟨G3, r3⟩ := p.join r he
  refine hc G3 (hideOwn env σ H) (env.set i (.val d)) σ G3 H _ r3 ?_
  unfold sIfP at w
  cases hf : f (env.set i (.val d)) with
  | stuck => rw [hf] at w; exact w
  | ex c' => rw [hf] at w; exact fun G' H' C e hc => w G H' C (r.ext.trans (ext_flat r.ext.sub e.hh)) hc
  | ok z =>
    rw [hf] at w
    cases z <;> first | exact (show False from w).elim | skip
    rename_i k
    intro G' H' e
    have e2 := ext_flat r.ext.sub e.hh
    refine ⟨k, rfl, ?_⟩
    cases k with
    | true =>
      refine ha G0 H0 env σ G H' _ (r.grow e2) ?_
      have w' : WishS X.mg E X.K G0 H0 G D (match A env with
        | .rt v => .rt v
        | .ex c => .ex c
        | _ => .stuck) := w
      revert w'
      cases A env with
      | rt v => exact fun w => w
      | ex c => exact fun w => w
      | _ => exact fun w => (show False from w).elim
    | false =>
      refine ⟨_, pss_nil, ?_⟩
      exact hr G0 H0 env σ G H' D a (r.grow e2) he (p.flat e.hh) w
end

/-! ### a list of lists that is only one's own: each of them and itself is changed -/
def listy (xss : List (List Int)) : D := .lst (xss.map fun x => .lst (x.map D.int))
def MessOk (d : D) : Prop := ∃ xss : List (List Int), d = listy xss ∧ xss.length ≤ 100000 ∧ ∀ x ∈ xss, x.length ≤ 100000
open Classical in
noncomputable def sMess (j : Nat) (d : D) (F : SFn) : Addr → SFn := fun a env => if MessOk d ∧ j < env.length then F (env.set j .no) else .stuck
section
variable {X : Cx} {E : XK} {rest : List Stmt} {i j : Nat} {d : D} {F : SFn} {st2 : Stmt} {x y : Str} {px py p2 fpos : Pos} {body : List Stmt} {le : Expr}
theorem p_mess (hp : PassesOwn (model X.prog X.w) X.A X.env X.xe) (hc : X.calm = true) (hv : PE X (.Name x px) (tVar i)) (hg : PG X (.Name y py) (gName j)) (hb : PSs X body (tDrop (tBM X.K "list" rAppend (tVar j) (tCons (tC (.int 0)) tNil))))
    (h2 : PS X st2 (tDrop (tBM X.K "list" rAppend (tVar i) (tCons (Re X le) tNil)))) (hl : SE X E le (eLst (aCons (eC (.int 0)) aNil))) (hij : i ≠ j) (hr : SSs X E rest F) (hs : ∀ z, foldedSetIterable (.Name x px) X.env z = pure z := by intro _; rfl) :
    SSsP X E (.For (.Name y py) (.Name x px) body [] fpos :: st2 :: rest) i d (sMess j d F) := by
  intro G0 H0 env σ G H D a r he p w
  unfold sMess at w
  by_cases q : MessOk d ∧ j < env.length
  · rw [if_pos q] at w
    obtain ⟨⟨xss, rfl, hb1, hb2⟩, hj⟩ := q
    obtain ⟨Gp, g1, g2, g3⟩ := p.ex
    have hσ : σ[i]? = some (some (.ref a)) := by
      obtain ⟨v, h1, h2⟩ := r.val i _ he
      cases h2
      exact h1
    cases g2 with
    | lst ha hR =>
      rename_i xs
      have hHa := g1 _ _ ha
      obtain ⟨pa1, pa2, pa3⟩ := g3 _ _ ha (fun _ z => nomatch z)
      have hlen : xs.length ≤ 100000 := by rw [hR.length, List.length_map]; exact hb1
      have inner : ∀ (k : Nat) (v : V), xs[k]? = some v → ∃ (q : Addr) (ws : List V), v = .ref q ∧ q ≠ a ∧ (G q = none ∧ H0 q = none ∧ ¬ OwnAt env σ q) ∧ H q = some (.lst ws) ∧ ws.length ≤ 100000 := by
        intro k v hk
        obtain ⟨e, h1, h2⟩ := hR.get' hk
        rw [List.getElem?_map] at h1
        cases hx : xss[k]? with
        | none => rw [hx] at h1; cases h1
        | some x =>
          rw [hx] at h1
          cases h1
          cases h2 with
          | lst hq hqr =>
            rename_i q ws
            have hw := hqr.ints
            subst hw
            refine ⟨q, _, rfl, fun z => ?_, g3 _ _ hq (fun _ z => nomatch z), g1 _ _ hq, by rw [List.length_map]; exact hb2 x (List.mem_of_getElem? hx)⟩
            subst z
            rw [ha] at hq
            cases hq
            rw [List.getElem?_map] at hk
            cases hz : x[k]? with
            | none => rw [hz] at hk; cases hk
            | some y => rw [hz] at hk; cases hk
      refine ⟨_, pss_cons (ps_for hp hc (pi_list hv) hg hb hs) (pss_cons h2 rss_pss), ?_⟩
      refine ⟨.ref a, hσ, a, rfl, ⟨xs, SqL.of hHa⟩, ?_⟩
      refine ⟨fun n m σ' H' => m = xs.length - n ∧ n ≤ xs.length ∧ (σ'.length = σ.length ∧ (∀ k, k ≠ j → σ'[k]? = σ[k]?) ∧ (∀ b, G b ≠ none ∨ H0 b ≠ none ∨ OwnAt env σ b → H' b = H b) ∧ H' a = some (.lst xs) ∧
          ∀ (k : Nat) (v : V), xs[k]? = some v → ∃ (q : Addr) (ws : List V), v = .ref q ∧ q ≠ a ∧ (G q = none ∧ H0 q = none ∧ ¬ OwnAt env σ q) ∧ H' q = some (.lst ws) ∧ ws.length ≤ 100000 + n),
        ⟨xs.length, by omega, Nat.zero_le _, rfl, fun _ _ => rfl, fun _ _ => rfl, hHa, inner⟩, ?_⟩
      rintro n m σ1 H1 ⟨rfl, hn, k1, k2, k3, k4, k5⟩
      by_cases hlt : n < xs.length
      · refine .inr ⟨⟨xs, xs[n], SqL.of k4, List.getElem?_eq_getElem hlt⟩, fun σ' H' => (σ'.length = σ.length ∧ (∀ k, k ≠ j → σ'[k]? = σ[k]?) ∧ (∀ b, G b ≠ none ∨ H0 b ≠ none ∨ OwnAt env σ b → H' b = H b) ∧ H' a = some (.lst xs) ∧
          ∀ (k : Nat) (v : V), xs[k]? = some v → ∃ (q : Addr) (ws : List V), v = .ref q ∧ q ≠ a ∧ (G q = none ∧ H0 q = none ∧ ¬ OwnAt env σ q) ∧ H' q = some (.lst ws) ∧ ws.length ≤ 100000 + (n + 1)),
          fun σ' H' h => ⟨xs.length - (n + 1), by omega, rfl, hlt, h⟩, fun z H2 hz => ?_⟩
        obtain ⟨rfl, hz⟩ := hz
        have hz := hz xs (SqL.of k4)
        obtain ⟨q, ws, rfl, q1, q2, q3, q4⟩ := k5 n _ hz
        refine ⟨.ref q, List.getElem?_set_self (by rw [k1, r.len]; exact hj), .inl ⟨rfl, ws, SqL.of q3⟩, q, ws, .int 0, rfl, rfl, q3, lim_lt (by rw [LIM_eq]; omega), ?_⟩
        refine ⟨by rw [List.length_set, k1], fun k hk => by rw [List.getElem?_set_ne (Ne.symm hk)]; exact k2 k hk, fun b hb => ?_, ?_, fun k v hk => ?_⟩
        · rw [upd_ne (fun z => by
            subst z
            rcases hb with hb | hb | hb
            · exact hb q2.1
            · exact hb q2.2.1
            · exact q2.2.2 hb)]
          exact k3 b hb
        · rw [upd_ne (Ne.symm q1)]; exact k4
        · obtain ⟨q', ws', e1, e2, e3, e4, e5⟩ := k5 k v hk
          by_cases z : q' = q
          · subst z
            rw [q3] at e4
            cases e4
            exact ⟨q', _, e1, e2, e3, upd_same, by rw [List.length_append, List.length_singleton]; omega⟩
          · exact ⟨q', ws', e1, e2, e3, by rw [upd_ne z]; exact e4, by omega⟩
      · refine .inl ⟨⟨xs, SqL.of k4, by omega⟩, ?_⟩
        have r1 : Rep X.K G0 H0 (env.set j .no) σ1 G H1 := (r.heap k3).slot k1 k2
        refine ⟨.ref a, by rw [k2 i hij]; exact hσ, .inl ⟨rfl, xs, SqL.of k4⟩, ?_⟩
        refine hl G0 H0 (env.set j .no) σ1 G H1 _ r1 (fun G' H2 e v hv => ?_)
        have a2 := e.hh _ _ k4
        refine ⟨a, xs, v, rfl, rfl, a2, lim_lt (by rw [LIM_eq]; omega), ?_⟩
        have ga : G' a = none := e.out k4 (fun _ z => nomatch z) pa1
        refine hr G0 H0 (env.set j .no) σ1 G' _ D ((r1.grow e).heap fun b hb => ?_) (WishS.up e.sm w)
        rw [upd_ne (fun z => by
          subst z
          rcases hb with hb | hb | hb
          · exact hb ga
          · exact hb pa2
          · exact pa3 (own_set k2 hb))]
  · rw [if_neg q] at w
    exact (show False from w).elim
end

/-! ### x = f(r, h), r a tuple, h a list of one's own, locked the while: what comes back is new -/
open Classical in
noncomputable def sFreshL (i ir ih : Nat) (fn : List D → R D) (F' : D → Addr → SFn) : SFn := fun env => match env[ir]?, env[ih]? with
  | some (.val (.tup ts)), some (.own (.lst hs)) => (match toInts hs with
    | some ns => (match fn [.tup ts, .scr ns] with
      | .ok d => if (ts.all flatD = true ∧ i < env.length) ∧ (∃ xss, d = listy xss) ∧ ∀ a, F' d a (env.set i (.val (.err a))) = .rt (.bl true) then .rt (.bl true) else .stuck
      | _ => .stuck)
    | none => .stuck)
  | _, _ => .stuck
theorem rp_flat {K : PySem.W.Frag} {G G' : Hp} {v : V} {d : D} (h : Rp K G v d) (f : flatD d = true) : Rp K G' v d := by
  cases h <;> first | (cases f; done) | skip
  · exact .non
  · exact .bl _
  · exact .int _
  · exact .str _
theorem rp_flats {K : PySem.W.Frag} {G G' : Hp} : ∀ {vs : List V} {ds : List D}, RpAll K G vs ds → ds.all flatD = true → RpAll K G' vs ds
  | _, _, .nil, _ => .nil
  | _, _, .cons h r, f => by
    rw [List.all_cons, Bool.and_eq_true] at f
    exact .cons (rp_flat h f.1) (rp_flats r f.2)
theorem rp_listy {K : PySem.W.Frag} {G G' : Hp} (h : ∀ b ys, G b = some (.lst ys) → G' b = some (.lst ys)) : ∀ {vs : List V} {xss : List (List Int)}, RpAll K G vs (xss.map fun x => D.lst (x.map D.int)) → RpAll K G' vs (xss.map fun x => D.lst (x.map D.int))
  | _, [], .nil => .nil
  | _, x :: xss, .cons hv r => .cons (by
      cases hv with
      | lst hq hqr =>
        have e := hqr.ints
        subst e
        exact .lst (h _ _ hq) (rp_ints x)) (rp_listy h r)
section
variable {X : Cx} {E : XK} {rest : List Stmt} {i ir ih k : Nat} {fn : List D → R D} {F' : D → Addr → SFn} {x fx rn hn : Str} {px pf pr ph pos pos' : Pos}
theorem ss_freshL (F : Fz X.prog X.w X.K X.mg X.base k fx 2 fn) (hr : Room k X.A) (hx : Passes (L2N.CX X.prog X.w) X E) (hN : X.N.Nodup) (hvr : PE X (.Name rn pr) (tVar ir)) (hvh : PE X (.Name hn ph) (tVar ih)) (h : ∀ d, SSsP X E rest i d (F' d))
    (hi : X.N[i]? = some x := by rfl) (hxl : Loc X.env.scope x := by first | exact Or.inl rfl | exact Or.inr rfl) (hs : swapsWith (.Call (.Name fx pf) [.Name rn pr, .Name hn ph] [] pos') (some (.Name x px)) pos.line X.env = pure false := by rfl) (hf : X.fn x = true ∨ X.env.scope.names.lookup x = some .local := by first | exact .inl rfl | exact .inr rfl)
    (hg : Gl X fx := by rfl) (hdb : (fx == ("__debug__" : Str)) = false := by decide) (he : starEach [.Name rn pr, .Name hn ph] X.env = (false, eval (.Name rn pr) X.env) :: starEach [.Name hn ph] X.env := by rfl) (he2 : starEach [.Name hn ph] X.env = (false, eval (.Name hn ph) X.env) :: starEach [] X.env := by rfl) (hpl : (backTo pos' (starEach [.Name hn ph] X.env)).any (·.1) = false := by rfl) :
    SSs X E (.Assign [.Name x px] (.Call (.Name fx pf) [.Name rn pr, .Name hn ph] [] pos') pos :: rest) (sFreshL i ir ih fn F') := by
  intro G0 H0 env σ G H D rp w
  unfold sFreshL at w
  split at w
  · rename_i ts hs' e1 e2
    split at w
    · rename_i ns e3
      split at w
      · rename_i d e4
        by_cases q : (ts.all flatD = true ∧ i < env.length) ∧ (∃ xss, d = listy xss) ∧ ∀ a, F' d a (env.set i (.val (.err a))) = .rt (.bl true)
        · rw [if_pos q] at w
          obtain ⟨⟨qf, qi⟩, ⟨xss, rfl⟩, qa⟩ := q
          have e3' := toInts_eq e3
          subst e3'
          obtain ⟨v1, s1, r1⟩ := rp.val ir _ e1
          cases r1 with
          | tup ht hvs =>
          rename_i t vs
          obtain ⟨p, o, s2, hp, gp, h0p, xs', rfl, hxs⟩ := rp.own ih _ e2
          have hx' := hxs.ints
          subst hx'
          obtain ⟨fa, fd, ps, f1, f2, f3, f4, f5⟩ := F.ex
          have ntp : t ≠ p := fun z => by rw [z, gp] at ht; cases ht
          refine ⟨_, pss_cons (ps_set hN hi hxl (pe_lock (pe_call (dvs := []) f5 hr hg f2 f3 f4 .nil hx (pa_cons hvr (pa_cons hvh pa_nil he2) he) hdb he hpl)) hs hf) rss_pss, ?_⟩
          refine ⟨p, .lst (ns.map V.int), hp, trivial, fun od => ?_⟩
          refine ⟨.ref t, s1, .ref p, s2, rfl, fun b => if b = t then some (.tup vs) else if b = p then some (.frz od (.lst (ns.map V.int))) else none, [.tup ts, .scr ns], fun b u z => ?_,
            .cons (.tup (if_pos rfl) (rp_flats hvs qf)) (.cons (.scr (.inl (.inr ⟨od, (if_neg (Ne.symm ntp)).trans (if_pos rfl)⟩))) .nil), ?_⟩
          · dsimp only at z
            by_cases z1 : b = t
            · subst z1
              rw [if_pos rfl] at z
              cases z
              rw [upd_ne ntp]
              exact rp.ext.sub _ _ ht
            · rw [if_neg z1] at z
              by_cases z2 : b = p
              · subst z2
                rw [if_pos rfl] at z
                cases z
                exact upd_same
              · rw [if_neg z2] at z; cases z
          · rw [e4]
            intro G' H' e v hv
            have hp' : H' p = some (.frz od (.lst (ns.map V.int))) := e.hh _ _ upd_same
            refine ⟨hp', ?_⟩
            have new : ∀ b ys, G' b = some (.lst ys) → upd H p (.frz od (.lst (ns.map V.int))) b = none := fun b ys z => by
              cases z1 : upd H p (.frz od (.lst (ns.map V.int))) b with
              | none => rfl
              | some o' =>
                exfalso
                have z2 := e.hh _ _ z1
                rw [e.sub _ _ z] at z2
                cases z2
                have z3 := e.gg b (fun _ z4 => by rw [z1] at z4; cases z4) (by rw [z1]; simp)
                rw [z] at z3
                by_cases z4 : b = t
                · rw [if_pos z4] at z3; cases z3
                · rw [if_neg z4] at z3
                  by_cases z5 : b = p
                  · rw [if_pos z5] at z3; cases z3
                  · rw [if_neg z5] at z3; cases z3
            have nep : ∀ b ys, G' b = some (.lst ys) → b ≠ p := fun b ys z z1 => by
              have z2 := new b ys z
              rw [z1, upd_same] at z2
              cases z2
            have newH : ∀ b ys, G' b = some (.lst ys) → H b = none := fun b ys z => by
              have z2 := new b ys z
              rw [upd_ne (nep b ys z)] at z2
              exact z2
            have sH : Same H (upd H' p (.lst (ns.map V.int))) := fun b u z => by
              by_cases z1 : b = p
              · subst z1
                rw [hp] at z
                rw [upd_same]
                exact z
              · rw [upd_ne z1]
                exact e.hh b u (by rw [upd_ne z1]; exact z)
            have r3 := (rp.grow (ext_flat rp.ext.sub sH)).setVal (i := i) (Rp.err (K := X.K) (G := G) (match v with | .ref a => a | _ => 0))
            cases hv with
            | lst ha hR =>
              rename_i a xs
              refine h _ G0 H0 (env.set i (.val (.err a))) _ G _ D a r3 (List.getElem?_set_self qi) ?_ (by rw [qa a]; exact w)
              refine ⟨fun b => match G' b with | some (HO.lst ys) => some (HO.lst ys) | _ => none, fun b u z => ?_, .lst (by show (match G' a with | some (HO.lst ys) => some (HO.lst ys) | _ => none) = _; rw [ha]) (rp_listy (fun b ys z => by show (match G' b with | some (HO.lst ys) => some (HO.lst ys) | _ => none) = _; rw [z]) hR), fun b o z _ => ?_⟩
              · have z' : (match G' b with | some (HO.lst ys) => some (HO.lst ys) | _ => none) = some u := z
                split at z'
                · rename_i ys zz
                  cases z'
                  rw [upd_ne (nep b ys zz)]
                  exact e.sub _ _ zz
                · cases z'
              · have z' : (match G' b with | some (HO.lst ys) => some (HO.lst ys) | _ => none) = some o := z
                split at z'
                · rename_i ys zz
                  have hb := newH b ys zz
                  refine ⟨rp.ext.sub.free hb, rp.ext.hh.free hb, fun z1 => ?_⟩
                  obtain ⟨k', d', k1, k2⟩ := z1
                  rcases env_set_case k1 with ⟨_, _, z2⟩ | ⟨n, k1⟩
                  · cases z2
                  · rw [List.getElem?_set_ne n] at k2
                    obtain ⟨o', k3, _⟩ := rp.ownAt ⟨k', d', k1, k2⟩
                    rw [hb] at k3
                    cases k3
                · cases z'
        · rw [if_neg q] at w; exact (show False from w).elim
      · exact (show False from w).elim
    · exact (show False from w).elim
  · exact (show False from w).elim
end
end Cn

namespace Cn
open PySem PySem.Spec PyProof.Rows L2

/-! ### a tuple of two lists, each its own -/
def twoT (x y : List Int) : D := .tup [.lst (x.map D.int), .lst (y.map D.int)]
section
variable {K : PySem.W.Frag} {G0 H0 G H G' H' Gp : Hp} {env env' : En} {σ σ' : L2.St} {a : Addr} {d d' : D}
theorem rp_two {v : V} {x y : List Int} (h : Rp K G v (.two x y)) : Rp K G v (twoT x y) := by
  cases h with
  | two h1 h2 h3 h4 => exact .tup h1 (.cons (.lst h2 (rp_ints x)) (.cons (.lst h3 (rp_ints y)) .nil))
/-- what lies in Gp is beside the clean part -/
def PrivG (Gp H0 : Hp) (env : En) (σ : L2.St) (G H : Hp) : Prop := Same Gp H ∧ ∀ b o, Gp b = some o → (∀ xs, o ≠ .tup xs) → G b = none ∧ H0 b = none ∧ ¬ OwnAt env σ b
theorem PrivG.priv (p : PrivG Gp H0 env σ G H) (h : Rp K Gp (.ref a) d) : Priv K H0 env σ G H a d := ⟨Gp, p.1, h, p.2⟩
theorem PrivG.flat (p : PrivG Gp H0 env σ G H) (h : Same H H') : PrivG Gp H0 env σ G H' := ⟨p.1.trans h, p.2⟩
theorem PrivG.own (p : PrivG Gp H0 env σ G H) (h : ∀ b, OwnAt env' σ' b → OwnAt env σ b) : PrivG Gp H0 env' σ' G H := ⟨p.1, fun b o q n => let ⟨h1, h2, h3⟩ := p.2 b o q n; ⟨h1, h2, fun z => h3 (h b z)⟩⟩
theorem own_setv {i : Nat} {u : Option V} {b : Addr} (h : OwnAt (env.set i (.val d)) (σ.set i u) b) : OwnAt env σ b := by
  obtain ⟨k, e, k1, k2⟩ := h
  rcases env_set_case k1 with ⟨_, _, z⟩ | ⟨n, k1⟩
  · cases z
  · rw [List.getElem?_set_ne n] at k2
    exact ⟨k, e, k1, k2⟩
theorem Priv.rp (p : Priv K H0 env σ G H a d) (h : ∀ Gp, Rp K Gp (.ref a) d → Rp K Gp (.ref a) d') : Priv K H0 env σ G H a d' :=
  let ⟨Gp, h1, h2, h3⟩ := p.ex
  ⟨Gp, h1, h _ h2, h3⟩
/-- a slot takes what is new -/
theorem fresh_set {i : Nat} {v : V} (r : Rep K G0 H0 env σ G H) (sH : Same H H') (sP : Same Gp H') (new : ∀ b o, Gp b = some o → (∀ xs, o ≠ .tup xs) → H b = none) (hv : v = .ref a) : Rep K G0 H0 (env.set i (.val (.err a))) (σ.set i (some v)) G H' ∧ PrivG Gp H0 (env.set i (.val (.err a))) (σ.set i (some v)) G H' := by
  subst hv
  refine ⟨(r.grow (ext_flat r.ext.sub sH)).setVal (.err a), sP, fun b o z n => ?_⟩
  have hb := new b o z n
  refine ⟨r.ext.sub.free hb, r.ext.hh.free hb, fun z1 => ?_⟩
  obtain ⟨o', k3, _⟩ := r.ownAt (own_setv z1)
  rw [hb] at k3
  cases k3
end

/-! ### calls that bring something new -/
def tupT : D → Bool
  | .tup ts => ts.all flatD
  | _ => false
def lstT : D → Bool
  | .lst ts => ts.all tupT
  | _ => false
def tupF (d : D) : Bool := flatD d || tupT d
def argO (d : D) : Bool := tupF d || lstT d
def ResOk (ds : List D) (d : D) : Prop := d = .non ∨ (ds.all tupF = true ∧ ∃ xss, d = listy xss) ∨ ∃ x y, d = .two x y ∧ x ≠ [] ∧ y ≠ []
open Classical in
noncomputable def eCallP (fn : List D → R D) (f : AF) : EF := fun env => (f env).bind fun ds => if ds.all argO = true then (match fn ds with
  | .ok d => if ResOk ds d then .ok d else .stuck
  | .ex c => .ex c
  | .stuck => .stuck) else .stuck
def WishV (X : Cx) (E : XK) (H : Hp) (Q : VK) : R D → Prop
  | .ok d => ∀ H' v Gp, Same H H' → Same Gp H' → Rp X.K Gp v d → (∀ b o, Gp b = some o → (∀ xs, o ≠ .tup xs) → H b = none) → Q v H'
  | .ex c => ∀ H' C, Same H H' → X.mg c = some (.ref C) → E (.ref C) none H'
  | .stuck => False
def SPv (X : Cx) (E : XK) (e : Expr) (fc : EF) : Prop := ∀ (G0 H0 : Hp) (env : En) (σ : L2.St) (G H : Hp) (Q : VK), Rep X.K G0 H0 env σ G H → WishV X E H Q (fc env) → Re X e σ H Q
section
variable {K : PySem.W.Frag} {G H Gm : Hp}
theorem bp_flat {v : V} {d : D} (b : Bp K G H v d) (f : flatD d = true) : Rp K Gm v d ∧ ∀ a, v ≠ .ref a := by
  rcases b with h | ⟨_, _, _, _, _, h⟩
  · refine ⟨rp_flat h f, fun a z => ?_⟩
    subst z
    cases h <;> cases f
  · cases d <;> first | (exact h.elim) | (cases f)
theorem rp_tup {v : V} {d : D} (h : Rp K G v d) (f : tupT d = true) (hg : ∀ b ys, G b = some (.tup ys) → Gm b = some (.tup ys)) : Rp K Gm v d := by
  cases d <;> first | (cases f; done) | skip
  cases h with
  | tup h1 h2 => exact .tup (hg _ _ h1) (rp_flats h2 f)
theorem rp_tups (hg : ∀ b ys, G b = some (.tup ys) → Gm b = some (.tup ys)) : ∀ {vs : List V} {ds : List D}, RpAll K G vs ds → ds.all tupT = true → RpAll K Gm vs ds
  | _, _, .nil, _ => .nil
  | _, _, .cons h r, f => by
    rw [List.all_cons, Bool.and_eq_true] at f
    exact .cons (rp_tup h f.1 hg) (rp_tups hg r f.2)
theorem bp_mem {v : V} : ∀ {vs : List V} {ds : List D}, BpAll K G H vs ds → v ∈ vs → ∃ d ∈ ds, Bp K G H v d
  | _, _, .cons h r, hm => by
    rcases List.mem_cons.mp hm with rfl | hm
    · exact ⟨_, List.mem_cons_self, h⟩
    · obtain ⟨d, h1, h2⟩ := bp_mem r hm
      exact ⟨d, List.mem_cons_of_mem _ h1, h2⟩
/-- of the clean part only what the arguments are -/
theorem least_part (s : Same G H) {vs : List V} {ds : List D} (b : BpAll K G H vs ds) (f : ds.all argO = true) : ∃ Gm, Same Gm H ∧ RpAll K Gm vs ds ∧ ∀ b ys, Gm b = some (.lst ys) → ∃ ts, .lst ts ∈ ds ∧ RpAll K G ys ts ∧ ts.all tupT = true := by
  classical
  have hg : ∀ b ys, G b = some (.tup ys) → (fun b => match H b with
    | some (.tup xs) => G b
    | some (.lst xs) => if V.ref b ∈ vs then some (HO.lst xs) else none
    | _ => none) b = some (.tup ys) := fun b ys z => by
    have z1 := s _ _ z
    show (match H b with
    | some (.tup xs) => G b
    | some (.lst xs) => if V.ref b ∈ vs then some (HO.lst xs) else none
    | _ => none) = some (.tup ys)
    rw [z1]
    exact z
  refine ⟨fun b => match H b with
    | some (.tup xs) => G b
    | some (.lst xs) => if V.ref b ∈ vs then some (HO.lst xs) else none
    | _ => none, fun c u z => ?_, ?_, fun c ys z => ?_⟩
  · dsimp only at z
    split at z
    · exact s _ _ z
    · rename_i xs hx
      by_cases q : V.ref c ∈ vs
      · rw [if_pos q] at z; rw [hx]; exact z
      · rw [if_neg q] at z; cases z
    · cases z
  · have key : ∀ {us : List V} {es : List D}, BpAll K G H us es → (∀ u ∈ us, u ∈ vs) → es.all argO = true → RpAll K (fun b => match H b with
    | some (.tup xs) => G b
    | some (.lst xs) => if V.ref b ∈ vs then some (HO.lst xs) else none
    | _ => none) us es := by
      intro us es hb
      induction hb with
      | nil => exact fun _ _ => .nil
      | @cons v us d es h r ih =>
        intro hm hf
        rw [List.all_cons, Bool.and_eq_true] at hf
        refine .cons ?_ (ih (fun u hu => hm u (List.mem_cons_of_mem _ hu)) hf.2)
        have hf1 := hf.1
        unfold argO tupF at hf1
        rw [Bool.or_eq_true, Bool.or_eq_true] at hf1
        rcases hf1 with (q | q) | q
        · exact (bp_flat h q).1
        · cases d <;> first | (cases q; done) | skip
          obtain ⟨a, xs, rfl, h1, h2⟩ := h.tup
          exact rp_tup (.tup h1 h2) q hg
        · cases d <;> first | (cases q; done) | skip
          obtain ⟨a, xs, rfl, h1, h2⟩ := h.lst s
          refine .lst ?_ (rp_tups hg h2 q)
          show (match H a with
            | some (.tup xs) => G a
            | some (.lst xs) => if V.ref a ∈ vs then some (HO.lst xs) else none
            | _ => none) = _
          rw [h1]
          exact if_pos (hm _ List.mem_cons_self)
    exact key b (fun _ h => h) f
  · dsimp only at z
    split at z
    · rename_i xs hx
      have := s _ _ z
      rw [hx] at this
      cases this
    · rename_i xs hx
      by_cases q : V.ref c ∈ vs
      · rw [if_pos q] at z
        cases z
        obtain ⟨d, hd, hb⟩ := bp_mem b q
        have hf := List.all_eq_true.mp f d hd
        unfold argO tupF at hf
        rw [Bool.or_eq_true, Bool.or_eq_true] at hf
        rcases hf with (q | q) | q
        · exact ((bp_flat (Gm := G) hb q).2 c rfl).elim
        · cases d <;> first | (cases q; done) | skip
          obtain ⟨a, xs, e, h1, h2⟩ := hb.tup
          cases e
          rw [s _ _ h1] at hx
          cases hx
        · cases d <;> first | (cases q; done) | skip
          obtain ⟨a, xs, e, h1, h2⟩ := hb.lst s
          cases e
          rw [h1] at hx
          cases hx
          exact ⟨_, hd, h2, q⟩
      · rw [if_neg q] at z; cases z
    · cases z
end
section
variable {X : Cx} {E : XK} {e : Expr} {es : List Expr} {fs : AF} {pos : Pos}
theorem spv_call {k n : Nat} {x : Str} {p : Pos} {fn : List D → R D} (F : Fz X.prog X.w X.K X.mg X.base k x n fn) (hr : Room k X.A) (hx : Passes (L2N.CX X.prog X.w) X E) (ha : SAbn X E (e :: es) fs) (hn : (e :: es).length = n := by rfl) (hg : Gl X x := by rfl)
    (hdb : (x == ("__debug__" : Str)) = false := by decide) (he : starEach (e :: es) X.env = (false, eval e X.env) :: starEach es X.env := by rfl) (hpl : (backTo pos (starEach es X.env)).any (·.1) = false := by rfl) :
    SPv X E (.Call (.Name x p) (e :: es) [] pos) (eCallP fn fs) := by
  classical
  intro G0 H0 env σ G H Q r w
  obtain ⟨fa, fd, ps, h1, h2, h3, h4, h5⟩ := F.ex
  refine ⟨_, pe_call (dvs := []) h5 hr hg h2 h3 h4 .nil hx ra_pa hdb he hpl, ?_⟩
  refine ha G0 H0 env σ G H _ r ?_
  unfold eCallP at w
  cases hfs : fs env with
  | stuck => rw [hfs] at w; exact w
  | ex c => rw [hfs] at w; exact fun G' H' C e hc => w H' C e.hh hc
  | ok ds =>
    rw [hfs] at w
    intro G1 H1 e1 vs hvs hl
    have w1 : WishV X E H Q (if ds.all argO = true then (match fn ds with
      | .ok d => if ResOk ds d then .ok d else .stuck
      | .ex c => .ex c
      | .stuck => .stuck) else .stuck) := w
    by_cases hA : ds.all argO = true
    · rw [if_pos hA] at w1
      rw [List.append_nil]
      obtain ⟨Gm, g1, g2, g3⟩ := least_part e1.sub hvs hA
      refine ⟨hl.trans hn, Gm, ds, g1, g2, ?_⟩
      cases hfn : fn ds with
      | stuck => rw [hfn] at w1; exact w1
      | ex c => rw [hfn] at w1; exact fun G' H' C e hc => w1 H' C (e1.hh.trans e.hh) hc
      | ok d =>
        rw [hfn] at w1
        have w2 : WishV X E H Q (if ResOk ds d then .ok d else .stuck) := w1
        by_cases hR : ResOk ds d
        · rw [if_pos hR] at w2
          intro G' H' e v hv
          have old : ∀ b ys, G' b = some (.lst ys) → H1 b = none ∨ Gm b = some (.lst ys) := fun b ys z => by
            cases z1 : H1 b with
            | none => exact .inl rfl
            | some o' =>
              right
              have z2 := e.hh _ _ z1
              rw [e.sub _ _ z] at z2
              cases z2
              rw [← e.gg b (fun _ z4 => by rw [z1] at z4; cases z4) (by rw [z1]; simp)]
              exact z
          rcases hR with rfl | ⟨hT, xss, rfl⟩ | ⟨x, y, rfl, hx0, hy0⟩
          · cases hv
            exact w2 H' .non (fun _ => none) (e1.hh.trans e.hh) (fun _ _ z => nomatch z) .non (fun _ _ z => nomatch z)
          · have new : ∀ b ys, G' b = some (.lst ys) → H b = none := fun b ys z => by
              rcases old b ys z with z | z
              · exact e1.hh.free z
              · obtain ⟨ts, m, _⟩ := g3 b ys z
                have := List.all_eq_true.mp hT _ m
                cases this
            cases hv with
            | lst ha hR =>
              rename_i a xs
              refine w2 H' (.ref a) (fun b => match G' b with | some (HO.lst ys) => some (HO.lst ys) | _ => none) (e1.hh.trans e.hh) (fun b u z => ?_) (.lst (by show (match G' a with | some (HO.lst ys) => some (HO.lst ys) | _ => none) = _; rw [ha]) (rp_listy (fun b ys z => by show (match G' b with | some (HO.lst ys) => some (HO.lst ys) | _ => none) = _; rw [z]) hR)) (fun b o z _ => ?_)
              · dsimp only at z
                split at z
                · rename_i ys zz
                  cases z
                  exact e.sub _ _ zz
                · cases z
              · split at z
                · rename_i ys zz
                  exact new b ys zz
                · cases z
          · have new : ∀ (b : Addr) (z : List Int), z ≠ [] → G' b = some (.lst (z.map V.int)) → H b = none := fun b z hz hb => by
              rcases old b _ hb with q | q
              · exact e1.hh.free q
              · obtain ⟨ts, _, m, ht⟩ := g3 b _ q
                cases z with
                | nil => exact (hz rfl).elim
                | cons z0 zr =>
                  cases m with
                  | cons m1 m2 =>
                    rw [List.all_cons, Bool.and_eq_true] at ht
                    cases m1
                    cases ht.1
            cases hv with
            | two q1 q2 q3 q4 =>
              rename_i t a b
              have ta : t ≠ a := fun z => by rw [z, q2] at q1; cases q1
              have tb : t ≠ b := fun z => by rw [z, q3] at q1; cases q1
              refine w2 H' (.ref t) (fun c => if c = t then some (.tup [.ref a, .ref b]) else if c = a then some (.lst (x.map V.int)) else if c = b then some (.lst (y.map V.int)) else none) (e1.hh.trans e.hh) (fun c u z => ?_)
                (.two (if_pos rfl) ((if_neg (Ne.symm ta)).trans (if_pos rfl)) ((if_neg (Ne.symm tb)).trans ((if_neg (Ne.symm q4)).trans (if_pos rfl))) q4) (fun c o z n => ?_)
              · dsimp only at z
                by_cases c1 : c = t
                · rw [if_pos c1] at z; rw [c1, ← z]; exact e.sub _ _ q1
                · rw [if_neg c1] at z
                  by_cases c2 : c = a
                  · rw [if_pos c2] at z; rw [c2, ← z]; exact e.sub _ _ q2
                  · rw [if_neg c2] at z
                    by_cases c3 : c = b
                    · rw [if_pos c3] at z; rw [c3, ← z]; exact e.sub _ _ q3
                    · rw [if_neg c3] at z; cases z
              · by_cases c1 : c = t
                · rw [if_pos c1] at z; cases z; exact (n _ rfl).elim
                · rw [if_neg c1] at z
                  by_cases c2 : c = a
                  · rw [c2]; exact new a x hx0 q2
                  · rw [if_neg c2] at z
                    by_cases c3 : c = b
                    · rw [c3]; exact new b y hy0 q3
                    · rw [if_neg c3] at z; cases z
        · rw [if_neg hR] at w2; exact (show False from w2).elim
    · rw [if_neg hA] at w1; exact (show False from w1).elim
end

/-! ### statements that read or keep it -/
def sIfQ (i : Nat) (d' : D) (f : EF) (A' F' : Addr → SFn) : Addr → SFn := fun a env => rOut (f (env.set i (.val d'))) fun z => match z with
  | .bl true => (match A' a env with
    | .rt v => .rt v
    | .ex c => .ex c
    | _ => .stuck)
  | .bl false => F' a env
  | _ => .stuck
def SSsK (X : Cx) (E : XK) (sts : List Stmt) (i : Nat) (d : D) (F : Addr → SFn) : Prop := ∀ (G0 H0 : Hp) (env : En) (σ : L2.St) (G H : Hp) (D : Ends) (a : Addr) (Gp : Hp), Rep X.K G0 H0 env σ G H → env[i]? = some (.val (.err a)) → PrivG Gp H0 env σ G H → Rp X.K Gp (.ref a) d →
  (match F a env with
    | .nx e => ∀ σ' G' H', Rep X.K G0 H0 e σ' G' H' → Same G G' → PrivG Gp H0 e σ' G' H' → D.nx σ' H'
    | .rt d => ∀ v G' H', Ext G0 H0 G' H' → Rp X.K G' v d → D.rt v H'
    | .ex c => ∀ G' H' C, Ext G0 H0 G' H' → X.mg c = some (.ref C) → E (.ref C) none H'
    | _ => False) → Rss X sts D σ H
section
variable {X : Cx} {E : XK} {st : Stmt} {sts rest : List Stmt} {i j : Nat} {d d' : D} {F A : SFn} {F' A' : Addr → SFn} {c : Expr} {f : EF} {pos : Pos}
theorem p_ifQ (hd : ∀ (K : PySem.W.Frag) (G : Hp) (v : V), Rp K G v d → Rp K G v d') (hc : ST X E c f) (ha : SSsP X E sts i d A') (hr : SSsP X E rest i d F') : SSsP X E (.If c sts [] pos :: rest) i d (sIfQ i d' f A' F') := by
  intro G0 H0 env σ G H D a r he p w
  refine ⟨_, pss_cons (ps_if rt_pt rss_pss rss_pss) rss_pss, ?_⟩
  obtain ⟨G3, r3⟩ := (p.rp fun Gp h => hd _ Gp _ h).join r he
  refine hc G3 (hideOwn env σ H) (env.set i (.val d')) σ G3 H _ r3 ?_
  unfold sIfQ at w
  cases hf : f (env.set i (.val d')) with
  | stuck => rw [hf] at w; exact w
  | ex c' => rw [hf] at w; exact fun G' H' C e hc => w G H' C (r.ext.trans (ext_flat r.ext.sub e.hh)) hc
  | ok z =>
    rw [hf] at w
    cases z <;> first | exact (show False from w).elim | skip
    rename_i k
    intro G' H' e
    have e2 := ext_flat r.ext.sub e.hh
    refine ⟨k, rfl, ?_⟩
    cases k with
    | true =>
      refine ha G0 H0 env σ G H' _ a (r.grow e2) he (p.flat e.hh) ?_
      have w' : WishS X.mg E X.K G0 H0 G D (match A' a env with
        | .rt v => .rt v
        | .ex c => .ex c
        | _ => .stuck) := w
      revert w'
      cases A' a env with
      | rt v => exact fun w => w
      | ex c => exact fun w => w
      | _ => exact fun w => (show False from w).elim
    | false =>
      refine ⟨_, pss_nil, ?_⟩
      exact hr G0 H0 env σ G H' D a (r.grow e2) he (p.flat e.hh) w
/-- one test of it, and what it keeps behind -/
theorem k_if (hc : ST X E c f) (ha : SSsP X E sts i d A') : SSsK X E [.If c sts [] pos] i d (sIfQ i d f A' (fun _ env => .nx env)) := by
  intro G0 H0 env σ G H D a Gp r he p hv w
  have p1 := p.priv hv
  refine ⟨_, pss_one (ps_if rt_pt rss_pss rss_pss), ?_⟩
  obtain ⟨G3, r3⟩ := p1.join r he
  refine hc G3 (hideOwn env σ H) (env.set i (.val d)) σ G3 H _ r3 ?_
  unfold sIfQ at w
  cases hf : f (env.set i (.val d)) with
  | stuck => rw [hf] at w; exact w
  | ex c' => rw [hf] at w; exact fun G' H' C e hc => w G H' C (r.ext.trans (ext_flat r.ext.sub e.hh)) hc
  | ok z =>
    rw [hf] at w
    cases z <;> first | exact (show False from w).elim | skip
    rename_i k
    intro G' H' e
    have e2 := ext_flat r.ext.sub e.hh
    refine ⟨k, rfl, ?_⟩
    cases k with
    | true =>
      refine ha G0 H0 env σ G H' _ a (r.grow e2) he (p1.flat e.hh) ?_
      revert w
      simp only [rOut]
      cases A' a env with
      | rt v => exact fun w => w
      | ex c => exact fun w => w
      | _ => exact fun w => (show False from w).elim
    | false =>
      refine ⟨_, pss_nil, ?_⟩
      exact w σ G H' (r.grow e2) (Same.refl G) (p.flat e.hh)
/-- return (x, y), y only one's own -/
def sRetTwo (i : Nat) (d : D) : Addr → SFn := fun _ env => match env[i]?, d with
  | some (.val (.lst dx)), .lst dy => (match toInts dx, toInts dy with
    | some x, some y => .rt (.two x y)
    | _, _ => .stuck)
  | _, _ => .stuck
theorem p_retTwo {xn yn : Str} {px py tpos : Pos} {k1} (hvx : PE X (.Name xn px) (tVar i)) (hvy : PE X (.Name yn py) (tVar j))
    (hs : starEach [.Name xn px, .Name yn py] X.env = (false, eval (.Name xn px) X.env) :: starEach [.Name yn py] X.env := by rfl) (hs2 : starEach [.Name yn py] X.env = (false, eval (.Name yn py) X.env) :: starEach [] X.env := by rfl) :
    SSsP X E [.Return (some (.Tuple [.Name xn px, .Name yn py] k1 tpos)) pos] j d (sRetTwo i d) := by
  intro G0 H0 env σ G H D a r he p w
  unfold sRetTwo at w
  split at w
  · rename_i dx dy e1
    split at w
    · rename_i x y ex ey
      have ex' := toInts_eq ex
      have ey' := toInts_eq ey
      subst ex'
      subst ey'
      refine ⟨_, pss_one (ps_ret (pe_tup (pa_cons hvx (pa_cons hvy pa_nil hs2) hs))), ?_⟩
      obtain ⟨vx, s1, r1⟩ := r.val i _ e1
      obtain ⟨vy, s2, r2⟩ := r.val j _ he
      cases r2
      cases r1 with
      | lst ha hR =>
      rename_i q xs
      have hx := hR.ints
      subst hx
      obtain ⟨Gp, g1, g2, g3⟩ := p.ex
      cases g2 with
      | lst hb hR2 =>
      rename_i ys
      have hy := hR2.ints
      subst hy
      obtain ⟨b1, b2, b3⟩ := g3 _ _ hb (fun _ z => nomatch z)
      have hHb := g1 _ _ hb
      have hab : q ≠ a := fun z => by rw [z, b1] at ha; cases ha
      refine ⟨.ref q, s1, .ref a, s2, by show 2 ≤ sizeLine; exact lim_le (by rw [LIM_eq]; decide), fun t ht => ?_⟩
      have hta : a ≠ t := fun z => by rw [z, ht] at hHb; cases hHb
      have htq : q ≠ t := fun z => by have := r.ext.sub _ _ ha; rw [z, ht] at this; cases this
      have n0 : H0 t = none := r.ext.hh.free ht
      have sG : Same G (upd (upd G a (.lst (y.map V.int))) t (.tup [.ref q, .ref a])) := fun b u z => by
        rw [upd_ne (ne_of_none z (r.ext.sub.free ht)), upd_ne (ne_of_none z b1)]; exact z
      refine w (.ref t) (upd (upd G a (.lst (y.map V.int))) t (.tup [.ref q, .ref a])) _ ⟨fun b u z => ?_, r.ext.hh.trans (Same.upd ht), fun b hn hb0 => ?_, r.ext.sm.trans sG⟩ (.two upd_same ?_ ?_ hab)
      · by_cases z1 : b = t
        · subst z1
          rw [upd_same] at z ⊢
          exact z
        · rw [upd_ne z1] at z ⊢
          by_cases z2 : b = a
          · subst z2
            rw [upd_same] at z
            cases z
            exact hHb
          · rw [upd_ne z2] at z
            exact r.ext.sub _ _ z
      · rw [upd_ne (fun z => hb0 (by rw [z]; exact n0)), upd_ne (fun z => hb0 (by rw [z]; exact b2))]
        exact r.ext.gg b hn hb0
      · rw [upd_ne htq, upd_ne hab]; exact ha
      · rw [upd_ne hta, upd_same]
    · exact (show False from w).elim
  · exact (show False from w).elim
open Classical in
/-- x = a call, what comes is None or a new tuple of two new lists -/
noncomputable def sFreshB (i : Nat) (fc : EF) (Fn : SFn) (Fp : List Int → List Int → Addr → SFn) : SFn := fun env => match fc env with
  | .ok .non => Fn (env.set i (.val .non))
  | .ok (.two x y) => if i < env.length ∧ ∀ a, Fp x y a (env.set i (.val (.err a))) = .rt (.bl true) then .rt (.bl true) else .stuck
  | .ex c => .ex c
  | _ => .stuck
theorem ss_freshB {x : Str} {px : Pos} {e : Expr} {fc : EF} {Fn : SFn} {Fp : List Int → List Int → Addr → SFn} (hN : X.N.Nodup) (hv : SPv X E e fc) (hn : SSs X E rest Fn) (hp : ∀ x y, SSsP X E rest i (.two x y) (Fp x y)) (hi : X.N[i]? = some x := by rfl) (hx : Loc X.env.scope x := by first | exact Or.inl rfl | exact Or.inr rfl) (hs : swapsWith e (some (.Name x px)) pos.line X.env = pure false := by rfl) (hf : X.fn x = true ∨ X.env.scope.names.lookup x = some .local := by first | exact .inl rfl | exact .inr rfl) :
    SSs X E (.Assign [.Name x px] e pos :: rest) (sFreshB i fc Fn Fp) := by
  intro G0 H0 env σ G H D r w
  refine ⟨_, pss_cons (ps_set hN hi hx re_pe hs hf) rss_pss, ?_⟩
  refine hv G0 H0 env σ G H _ r ?_
  unfold sFreshB at w
  split at w
  · rename_i e1
    rw [e1]
    intro H' v Gp sH sP hv' new
    cases hv'
    exact hn G0 H0 _ _ G H' D ((r.grow (ext_flat r.ext.sub sH)).setVal .non) w
  · rename_i xs ys e1
    rw [e1]
    by_cases q : i < env.length ∧ ∀ a, Fp xs ys a (env.set i (.val (.err a))) = .rt (.bl true)
    · rw [if_pos q] at w
      intro H' v Gp sH sP hv' new
      obtain ⟨a, rfl⟩ : ∃ a, v = .ref a := by cases hv'; exact ⟨_, rfl⟩
      obtain ⟨r2, p2⟩ := fresh_set (i := i) r sH sP new rfl
      exact hp xs ys G0 H0 _ _ G H' D a r2 (List.getElem?_set_self q.1) (p2.priv hv') (by rw [q.2 a]; exact w)
    · rw [if_neg q] at w; exact (show False from w).elim
  · rename_i c e1
    rw [e1]
    exact fun H' C sH hc => w G H' C (r.ext.trans (ext_flat r.ext.sub sH)) hc
  · exact (show False from w).elim
/-- x[0].append(n), x a tuple of two lists only one's own -/
def sApp0 (x y : List Int) (n : Int) (F' : List Int → List Int → Addr → SFn) : Addr → SFn := fun a env => if x.length < 100000 then F' (x ++ [n]) y a env else .stuck
theorem p_app0 {x y : List Int} {n : Int} {F' : List Int → List Int → Addr → SFn} (hs : PS X st (tDrop (tBM X.K "list" rAppend (tOp (rIxT X.K) (tVar i) (tC (.int 0))) (tCons (tC (.int n)) tNil)))) (hr : ∀ x y, SSsP X E rest i (.two x y) (F' x y)) :
    SSsP X E (st :: rest) i (.two x y) (sApp0 x y n F') := by
  intro G0 H0 env σ G H D a r he p w
  unfold sApp0 at w
  by_cases q : x.length < 100000
  · rw [if_pos q] at w
    obtain ⟨v, s1, r1⟩ := r.val i _ he
    cases r1
    obtain ⟨Gp, g1, g2, g3⟩ := p.ex
    cases g2 with
    | two h1 h2 h3 h4 =>
    rename_i b c
    obtain ⟨b1, b2, b3⟩ := g3 _ _ h2 (fun _ z => nomatch z)
    refine ⟨_, pss_cons hs rss_pss, ?_⟩
    have hHb := g1 _ _ h2
    have hab : a ≠ b := fun z => by rw [z, h2] at h1; cases h1
    refine ⟨.ref a, s1, a, [.ref b, .ref c], 0, .ref b, rfl, rfl, SqT.of (g1 _ _ h1), rfl, .inl ⟨rfl, _, SqL.of hHb⟩, b, _, .int n, rfl, rfl, hHb, lim_lt (by rw [List.length_map, LIM_eq]; omega), ?_⟩
    refine hr (x ++ [n]) y G0 H0 env σ G _ D a (r.heap fun z hz => upd_ne fun z1 => ?_) he ⟨upd Gp b (.lst (x.map V.int ++ [.int n])), fun z u hz => ?_, .two ?_ ?_ ?_ h4, fun z o hz no => ?_⟩ w
    · subst z1
      rcases hz with hz | hz | hz
      · exact hz b1
      · exact hz b2
      · exact b3 hz
    · by_cases z1 : z = b
      · subst z1
        rw [upd_same] at hz ⊢
        exact hz
      · rw [upd_ne z1] at hz ⊢
        exact g1 _ _ hz
    · rw [upd_ne hab]; exact h1
    · rw [upd_same, List.map_append]; rfl
    · rw [upd_ne (Ne.symm h4)]; exact h3
    · by_cases z1 : z = b
      · subst z1
        exact ⟨b1, b2, b3⟩
      · rw [upd_ne z1] at hz
        exact g3 z o hz no
  · rw [if_neg q] at w; exact (show False from w).elim

/-! ### for y in what is new: y is only one's own -/
def unI : D → Int
  | .int i => i
  | _ => 0
def unX : D → List Int
  | .lst ds => ds.map unI
  | _ => []
def unL : D → List (List Int)
  | .lst ds => ds.map unX
  | _ => []
theorem unL_listy (xss : List (List Int)) : unL (listy xss) = xss := by
  show (xss.map fun x => D.lst (x.map D.int)).map unX = xss
  rw [List.map_map]
  have : (unX ∘ fun x : List Int => D.lst (x.map D.int)) = id := by
    funext x
    show (x.map D.int).map unI = x
    rw [List.map_map]
    exact List.map_id _
  rw [this, List.map_id]
def rmO (j : Nat) : Out → Out
  | .nx e => .nx (e.set j .no)
  | .rt d => .rt d
  | .ex c => .ex c
  | _ => .stuck
open Classical in
noncomputable def outP (j : Nat) (f : Addr → Out) : Out := if ∀ a, rmO j (f a) = rmO j (f 0) then rmO j (f 0) else .stuck
noncomputable def forP (j : Nat) (FB : D → Addr → SFn) : List (List Int) → SFn
  | [], env => .nx env
  | x :: r, env => match outP j (fun a => FB (.lst (x.map D.int)) a (env.set j (.val (.err a)))) with
    | .nx e => if j < env.length then forP j FB r e else .stuck
    | .rt d => if j < env.length then .rt d else .stuck
    | .ex c => if j < env.length then .ex c else .stuck
    | _ => .stuck
open Classical in
noncomputable def sForP (j : Nat) (fc : EF) (FB : D → Addr → SFn) : SFn := fun env => match fc env with
  | .ok d => if d = listy (unL d) then forP j FB (unL d) env else .stuck
  | .ex c => .ex c
  | .stuck => .stuck
theorem ss_forP {y : Str} {py : Pos} {e : Expr} {fc : EF} {body : List Stmt} {FB : D → Addr → SFn} (hp : PassesOwn (model X.prog X.w) X.A X.env X.xe) (hc : X.calm = true) (hv : SPv X E e fc) (hg : PG X (.Name y py) (gName j)) (hb : ∀ d, SSsK X E body j d (FB d)) (hs : ∀ z, foldedSetIterable e X.env z = pure z := by intro _; rfl) :
    SS X E (.For (.Name y py) e body [] pos) (sForP j fc FB) := by
  intro G0 H0 env σ G H D r w
  refine ⟨_, ps_for hp hc (pi_list re_pe) hg rss_pss hs, ?_⟩
  refine hv G0 H0 env σ G H _ r ?_
  unfold sForP at w
  cases hfc : fc env with
  | stuck => rw [hfc] at w; exact w
  | ex c => rw [hfc] at w; exact fun H' C sH hc => w G H' C (r.ext.trans (ext_flat r.ext.sub sH)) hc
  | ok d =>
    rw [hfc] at w
    dsimp only at w
    by_cases q : d = listy (unL d)
    · rw [if_pos q] at w
      generalize unL d = xss at q w
      subst q
      intro H1 v Gp sH sP hv' new
      cases hv' with
      | lst ha hR =>
      rename_i p0 xs
      have hlen : xs.length = xss.length := by rw [hR.length, List.length_map]
      have pg : PrivG Gp H0 env σ G H1 := ⟨sP, fun b o z n => by
        have hb := new b o z n
        refine ⟨r.ext.sub.free hb, r.ext.hh.free hb, fun z1 => ?_⟩
        obtain ⟨o', k3, _⟩ := r.ownAt z1
        rw [hb] at k3
        cases k3⟩
      refine ⟨p0, rfl, ⟨xs, SqL.of (sP _ _ ha)⟩, ?_⟩
      refine ⟨fun n m σ' H' => m = xs.length - n ∧ n ≤ xs.length ∧ ∃ env' G', Rep X.K G0 H0 env' σ' G' H' ∧ Same G G' ∧ PrivG Gp H0 env' σ' G' H' ∧ WishS X.mg E X.K G0 H0 G' D (forP j FB (xss.drop n) env'),
        ⟨xs.length, by omega, Nat.zero_le _, env, G, r.grow (ext_flat r.ext.sub sH), Same.refl G, pg, w⟩, ?_⟩
      rintro n m σ2 H2 ⟨rfl, hn, env2, G2, r2, s2, p2, w2⟩
      by_cases hlt : n < xs.length
      · refine .inr ⟨⟨xs, xs[n], SqL.of (p2.1 _ _ ha), List.getElem?_eq_getElem hlt⟩, fun σ' H' => ∃ env' G', Rep X.K G0 H0 env' σ' G' H' ∧ Same G G' ∧ PrivG Gp H0 env' σ' G' H' ∧ WishS X.mg E X.K G0 H0 G' D (forP j FB (xss.drop (n + 1)) env'),
          fun σ' H' ⟨env', G', z⟩ => ⟨xs.length - (n + 1), by omega, rfl, hlt, env', G', z⟩, fun z H3 hz => ?_⟩
        obtain ⟨rfl, hz⟩ := hz
        have hz := hz xs (SqL.of (p2.1 _ _ ha))
        obtain ⟨dz, hd1, hd2⟩ := hR.get' hz
        have hlt' : n < xss.length := by omega
        rw [List.getElem?_map, List.getElem?_eq_getElem hlt'] at hd1
        cases hd1
        rw [List.drop_eq_getElem_cons hlt'] at w2
        unfold forP at w2
        obtain ⟨b, rfl⟩ : ∃ b, z = .ref b := by cases hd2; exact ⟨_, rfl⟩
        have r3 : Rep X.K G0 H0 (env2.set j (.val (.err b))) (σ2.set j (some (.ref b))) G2 H3 := r2.setVal (.err b)
        have p3 : PrivG Gp H0 (env2.set j (.val (.err b))) (σ2.set j (some (.ref b))) G2 H3 := p2.own fun c hc => own_setv hc
        show Rss X body _ (σ2.set j (some (.ref b))) H3
        unfold outP at w2
        by_cases qa : ∀ a, rmO j (FB (.lst (xss[n].map Cn.D.int)) a (env2.set j (.val (.err a)))) = rmO j (FB (.lst (xss[n].map Cn.D.int)) 0 (env2.set j (.val (.err 0))))
        · rw [if_pos qa, ← qa b] at w2
          have hj : j < env2.length := by
            cases hF : FB (.lst (xss[n].map Cn.D.int)) b (env2.set j (.val (.err b))) <;> rw [hF] at w2 <;> simp only [rmO] at w2 <;> first | exact (show False from w2).elim | skip
            all_goals
              by_cases hj : j < env2.length
              · exact hj
              · rw [if_neg hj] at w2; exact (show False from w2).elim
          refine hb _ G0 H0 (env2.set j (.val (.err b))) (σ2.set j (some (.ref b))) G2 H3 _ b Gp r3 (List.getElem?_set_self hj) p3 hd2 ?_
          cases hF : FB (.lst (xss[n].map Cn.D.int)) b (env2.set j (.val (.err b))) with
          | nx e =>
            rw [hF] at w2
            simp only [rmO, if_pos hj] at w2
            exact fun σ4 G4 H4 r4 s4 p4 => ⟨e.set j .no, G4, r4.slot rfl fun _ _ => rfl, s2.trans s4, p4.own fun c hc => own_set (fun _ _ => rfl) hc, WishS.up s4 w2⟩
          | rt d =>
            rw [hF] at w2
            simp only [rmO, if_pos hj] at w2
            exact w2
          | ex c =>
            rw [hF] at w2
            simp only [rmO, if_pos hj] at w2
            exact w2
          | bk e => rw [hF] at w2; simp only [rmO] at w2; exact (show False from w2).elim
          | ct e => rw [hF] at w2; simp only [rmO] at w2; exact (show False from w2).elim
          | stuck => rw [hF] at w2; simp only [rmO] at w2; exact (show False from w2).elim
        · rw [if_neg qa] at w2; exact (show False from w2).elim
      · refine .inl ⟨⟨xs, SqL.of (p2.1 _ _ ha), by omega⟩, ?_⟩
        rw [List.drop_eq_nil_of_le (by omega)] at w2
        exact w2 σ2 G2 H2 r2 (Same.refl G2)
    · rw [if_neg q] at w; exact (show False from w).elim
end
end Cn

namespace Cn
open PySem PySem.Spec PyProof.Rows L2
mutual
def same : D → D → Bool
  | .non, .non => true
  | .bl a, .bl b => a == b
  | .int a, .int b => decide (a = b)
  | .str a, .str b => decide (a = b)
  | .lst xs, .lst ys => sameL xs ys
  | .tup xs, .tup ys => sameL xs ys
  | .scr a, .scr b => decide (a = b)
  | .dct a, .dct b => decide (a = b)
  | .dctT a, .dctT b => decide (a = b)
  | .err a, .err b => decide (a = b)
  | .two a b, .two c d => decide (a = c) && decide (b = d)
  | _, _ => false
def sameL : List D → List D → Bool
  | [], [] => true
  | x :: xs, y :: ys => same x y && sameL xs ys
  | _, _ => false
end
mutual
theorem same_eq : ∀ (x y : D), same x y = true → x = y
  | .non, y, h => by cases y <;> simp only [same] at h <;> first | rfl | cases h
  | .bl a, y, h => by cases y <;> simp only [same, beq_iff_eq] at h <;> first | (rw [h]) | cases h
  | .int a, y, h => by cases y <;> simp only [same, decide_eq_true_eq] at h <;> first | (rw [h]) | cases h
  | .str a, y, h => by cases y <;> simp only [same, decide_eq_true_eq] at h <;> first | (rw [h]) | cases h
  | .scr a, y, h => by cases y <;> simp only [same, decide_eq_true_eq] at h <;> first | (rw [h]) | cases h
  | .dct a, y, h => by cases y <;> simp only [same, decide_eq_true_eq] at h <;> first | (rw [h]) | cases h
  | .dctT a, y, h => by cases y <;> simp only [same, decide_eq_true_eq] at h <;> first | (rw [h]) | cases h
  | .err a, y, h => by cases y <;> simp only [same, decide_eq_true_eq] at h <;> first | (rw [h]) | cases h
  | .two a b, y, h => by cases y <;> simp only [same, Bool.and_eq_true, decide_eq_true_eq] at h <;> first | (rw [h.1, h.2]) | cases h
  | .lst a, y, h => by cases y <;> simp only [same] at h <;> first | (rw [sameL_eq _ _ h]) | cases h
  | .tup a, y, h => by cases y <;> simp only [same] at h <;> first | (rw [sameL_eq _ _ h]) | cases h
theorem sameL_eq : ∀ (x y : List D), sameL x y = true → x = y
  | [], y, h => by cases y <;> simp only [sameL] at h <;> first | rfl | cases h
  | x :: xs, y, h => by
    cases y with
    | nil => simp only [sameL] at h; cases h
    | cons y ys =>
      simp only [sameL, Bool.and_eq_true] at h
      rw [same_eq x y h.1, sameL_eq xs ys h.2]
end
mutual
theorem same_self : ∀ x : D, same x x = true
  | .non => by simp only [same]
  | .bl a => by simp only [same, beq_self_eq_true]
  | .int a => by simp only [same, decide_true]
  | .str a => by simp only [same, decide_true]
  | .scr a => by simp only [same, decide_true]
  | .dct a => by simp only [same, decide_true]
  | .dctT a => by simp only [same, decide_true]
  | .err a => by simp only [same, decide_true]
  | .two a b => by simp only [same, decide_true, Bool.and_self]
  | .lst a => by simp only [same]; exact sameL_self a
  | .tup a => by simp only [same]; exact sameL_self a
theorem sameL_self : ∀ x : List D, sameL x x = true
  | [] => by simp only [sameL]
  | x :: xs => by simp only [sameL]; rw [same_self x, sameL_self xs]; rfl
end
theorem same_iff {x y : D} : same x y = true ↔ x = y := ⟨same_eq x y, fun h => h ▸ same_self x⟩
theorem sameL_iff {x y : List D} : sameL x y = true ↔ x = y := ⟨sameL_eq x y, fun h => h ▸ sameL_self x⟩
instance : DecidableEq D := fun x y => decidable_of_iff _ (@same_iff x y)
theorem same_dec (x y : D) : same x y = decide (x = y) := by
  by_cases h : x = y
  · rw [decide_eq_true h, h, same_self]
  · rw [decide_eq_false h]
    cases e : same x y with
    | true => exact (h (same_eq x y e)).elim
    | false => rfl
mutual
/-- whole numbers, and lists and tuples of them -/
def num : D → Bool
  | .int _ => true
  | .lst xs => numL xs
  | .tup xs => numL xs
  | _ => false
def numL : List D → Bool
  | [] => true
  | x :: xs => num x && numL xs
end
mutual
theorem num_plain : ∀ x : D, num x = true → plain x = true
  | .int _, _ => by simp only [plain]
  | .lst a, h => by simp only [num] at h; simp only [plain]; exact numL_plain a h
  | .tup a, h => by simp only [num] at h; simp only [plain]; exact numL_plain a h
  | .non, h => by simp only [num] at h; cases h
  | .bl _, h => by simp only [num] at h; cases h
  | .str _, h => by simp only [num] at h; cases h
  | .scr _, h => by simp only [num] at h; cases h
  | .dct _, h => by simp only [num] at h; cases h
  | .dctT _, h => by simp only [num] at h; cases h
  | .err _, h => by simp only [num] at h; cases h
  | .two _ _, h => by simp only [num] at h; cases h
theorem numL_plain : ∀ x : List D, numL x = true → plainL x = true
  | [], _ => by simp only [plainL]
  | x :: xs, h => by
    simp only [numL, Bool.and_eq_true] at h
    simp only [plainL]
    rw [num_plain x h.1, numL_plain xs h.2]; rfl
end
mutual
theorem num_eqv : ∀ x y : D, num x = true → num y = true → PyData.eqv x.py y.py = same x y
  | .int a, y, _, hy => by
    cases y <;> simp only [num] at hy <;> first | (simp only [D.py, PyData.eqv, same]; done) | (simp only [D.py, PyData.eqv, same]; rfl) | cases hy
  | .lst a, y, hx, hy => by
    simp only [num] at hx
    cases y with
    | lst b => simp only [num] at hy; simp only [D.py, PyData.eqv, same]; exact numL_eqv a b hx hy
    | tup b => simp only [D.py, PyData.eqv, same]
    | int b => simp only [D.py, PyData.eqv, same]
    | _ => simp only [num] at hy; cases hy
  | .tup a, y, hx, hy => by
    simp only [num] at hx
    cases y with
    | tup b => simp only [num] at hy; simp only [D.py, PyData.eqv, same]; exact numL_eqv a b hx hy
    | lst b => simp only [D.py, PyData.eqv, same]
    | int b => simp only [D.py, PyData.eqv, same]
    | _ => simp only [num] at hy; cases hy
  | .non, _, h, _ => by simp only [num] at h; cases h
  | .bl _, _, h, _ => by simp only [num] at h; cases h
  | .str _, _, h, _ => by simp only [num] at h; cases h
  | .scr _, _, h, _ => by simp only [num] at h; cases h
  | .dct _, _, h, _ => by simp only [num] at h; cases h
  | .dctT _, _, h, _ => by simp only [num] at h; cases h
  | .err _, _, h, _ => by simp only [num] at h; cases h
  | .two _ _, _, h, _ => by simp only [num] at h; cases h
theorem numL_eqv : ∀ x y : List D, numL x = true → numL y = true → PyData.eqvAll (pyL x) (pyL y) = sameL x y
  | [], [], _, _ => by simp only [pyL, PyData.eqvAll, sameL]
  | [], y :: ys, _, _ => by simp only [pyL, PyData.eqvAll, sameL]
  | x :: xs, [], _, _ => by simp only [pyL, PyData.eqvAll, sameL]
  | x :: xs, y :: ys, hx, hy => by
    simp only [numL, Bool.and_eq_true] at hx hy
    simp only [pyL, PyData.eqvAll, sameL]
    rw [num_eqv x y hx.1 hy.1, numL_eqv xs ys hx.2 hy.2]
end
/-- a list of numbers, lists, tuples at most so deep -/
def nd (n : Nat) (ds : List D) : Prop := ∀ d ∈ ds, num d = true ∧ dep d ≤ n
theorem nd_num : ∀ {n : Nat} {ds : List D}, nd n ds → numL ds = true
  | _, [], _ => by simp only [numL]
  | n, d :: r, h => by
    simp only [numL]
    rw [(h d (List.mem_cons_self ..)).1, nd_num (n := n) fun x hx => h x (List.mem_cons_of_mem _ hx)]; rfl
theorem nd_dep : ∀ {n : Nat} {ds : List D}, nd n ds → depL ds ≤ n
  | _, [], _ => by simp only [depL]; omega
  | n, d :: r, h => by
    simp only [depL]
    have a := (h d (List.mem_cons_self ..)).2
    have b := nd_dep (n := n) (ds := r) fun x hx => h x (List.mem_cons_of_mem _ hx)
    omega
theorem nd_ok {n : Nat} {ds : List D} (h : nd n ds) (hn : n ≤ 8) : okL ds = true := by
  unfold okL
  rw [numL_plain _ (nd_num h), decide_eq_true (show depL ds ≤ 8 by have := nd_dep h; omega)]; rfl
theorem nd_lst {n : Nat} {ds : List D} (h : nd n ds) : num (.lst ds) = true ∧ dep (.lst ds) ≤ n + 1 := by
  simp only [num, dep]
  exact ⟨nd_num h, by have := nd_dep h; omega⟩
theorem nd_tup {n : Nat} {ds : List D} (h : nd n ds) : num (.tup ds) = true ∧ dep (.tup ds) ≤ n + 1 := by
  simp only [num, dep]
  exact ⟨nd_num h, by have := nd_dep h; omega⟩
theorem nd_int (i : Int) : num (.int i) = true ∧ dep (.int i) ≤ 0 := by simp only [num, dep]; exact ⟨trivial, Nat.le_refl 0⟩
theorem nd_ints (a : List Int) : nd 0 (a.map D.int) := by
  intro d hd
  obtain ⟨i, _, rfl⟩ := List.mem_map.mp hd
  exact nd_int i
theorem nd_nil {n : Nat} : nd n [] := fun d h => by cases h
theorem nd_cons {n : Nat} {d : D} {ds : List D} (h : num d = true ∧ dep d ≤ n) (h2 : nd n ds) : nd n (d :: ds) := by
  intro x hx
  rcases List.mem_cons.mp hx with rfl | hx
  · exact h
  · exact h2 x hx
theorem nd_map {n : Nat} {α : Type} {f : α → D} (h : ∀ a, num (f a) = true ∧ dep (f a) ≤ n) (as : List α) : nd n (as.map f) := by
  intro d hd
  obtain ⟨i, _, rfl⟩ := List.mem_map.mp hd
  exact h i
theorem eqB_l {n : Nat} {a b : List D} (ha : nd n a) (hb : nd n b) (hn : n ≤ 8 := by decide) : eqB (.lst a) (.lst b) = some (decide (D.lst a = .lst b)) := by
  simp only [eqB]
  rw [nd_ok ha hn, nd_ok hb hn, if_pos (by rfl), numL_eqv a b (nd_num ha) (nd_num hb), ← same_dec]
  simp only [same]
theorem eqB_t {n : Nat} {a b : List D} (ha : nd n a) (hb : nd n b) (hn : n ≤ 8 := by decide) : eqB (.tup a) (.tup b) = some (decide (D.tup a = .tup b)) := by
  simp only [eqB]
  rw [nd_ok ha hn, nd_ok hb hn, if_pos (by rfl), numL_eqv a b (nd_num ha) (nd_num hb), ← same_dec]
  simp only [same]
theorem eqD_l {n : Nat} {a b : List D} (ha : nd n a) (hb : nd n b) (hn : n ≤ 8 := by decide) : eqD (.lst a) (.lst b) = .ok (.bl (decide (D.lst a = .lst b))) := by
  unfold eqD; rw [eqB_l ha hb hn]
theorem neD_l {n : Nat} {a b : List D} (ha : nd n a) (hb : nd n b) (hn : n ≤ 8 := by decide) : neD (.lst a) (.lst b) = .ok (.bl (!decide (D.lst a = .lst b))) := by
  unfold neD; rw [eqB_l ha hb hn]
theorem neD_self {n : Nat} {a : List D} (ha : nd n a) (hn : n ≤ 8 := by decide) : neD (.lst a) (.lst a) = .ok (.bl false) := by
  rw [neD_l ha ha hn, decide_eq_true rfl]; rfl
theorem eqD_self {n : Nat} {a : List D} (ha : nd n a) (hn : n ≤ 8 := by decide) : eqD (.lst a) (.lst a) = .ok (.bl true) := by
  rw [eqD_l ha ha hn, decide_eq_true rfl]
theorem any_py : ∀ {ds : List D} {x : D}, num x = true → numL ds = true → ((pyL ds).any fun z => PyData.eqv z x.py) = decide (x ∈ ds)
  | [], x, _, _ => by simp only [pyL, List.any_nil, List.not_mem_nil, decide_false]
  | d :: r, x, hx, h => by
    simp only [numL, Bool.and_eq_true] at h
    simp only [pyL, List.any_cons]
    rw [any_py hx h.2, num_eqv d x h.1 hx, same_dec]
    by_cases e : d = x
    · subst e; simp
    · have : x ≠ d := fun z => e z.symm
      simp [e, this]
theorem flat_int : ∀ {ds : List D}, (ds.all flatD) = true → numL ds = true → ∀ i : Int, (ds.any fun y => eqF y (.int i)) = decide (D.int i ∈ ds)
  | [], _, _, i => by simp
  | d :: r, h, hn, i => by
    simp only [List.all_cons, Bool.and_eq_true] at h
    simp only [numL, Bool.and_eq_true] at hn
    rw [List.any_cons, flat_int h.2 hn.2 i]
    cases d with
    | int j =>
      simp only [eqF]
      by_cases e : j = i
      · subst e; simp
      · have : ¬ i = j := fun z => e z.symm
        simp [e, this]
    | lst _ => simp only [flatD] at h; cases h.1
    | tup _ => simp only [flatD] at h; cases h.1
    | _ => simp only [num] at hn; cases hn.1
theorem inB_l {n : Nat} {x : D} {ds : List D} (hx : num x = true ∧ dep x ≤ n) (h : nd n ds) (hn : n ≤ 8 := by decide) : inB x (.lst ds) = some (decide (x ∈ ds)) := by
  have h1 : okD x = true := by
    unfold okD
    rw [num_plain x hx.1, decide_eq_true (show dep x ≤ 9 by omega)]; rfl
  have h2 : okL ds = true := nd_ok h hn
  simp only [inB]
  split
  · rename_i hf
    rw [Bool.and_eq_true] at hf
    cases x with
    | int i => rw [flat_int hf.2 (nd_num h) i]
    | lst a => simp only [flatD] at hf; cases hf.1
    | tup a => simp only [flatD] at hf; cases hf.1
    | _ => simp only [num] at hx; cases hx.1
  · rw [h1, h2, if_pos (by rfl), any_py hx.1 (nd_num h)]
theorem inD_l {n : Nat} {x : D} {ds : List D} (hx : num x = true ∧ dep x ≤ n) (h : nd n ds) (hn : n ≤ 8 := by decide) : inD x (.lst ds) = .ok (.bl (decide (x ∈ ds))) := by
  unfold inD; rw [inB_l hx h hn]
theorem ninD_l {n : Nat} {x : D} {ds : List D} (hx : num x = true ∧ dep x ≤ n) (h : nd n ds) (hn : n ≤ 8 := by decide) : ninD x (.lst ds) = .ok (.bl (!decide (x ∈ ds))) := by
  unfold ninD; rw [inB_l hx h hn]
theorem int_inj : Function.Injective D.int := fun a b h => by cases h; rfl
theorem mem_ints {i : Int} {a : List Int} : D.int i ∈ a.map D.int ↔ i ∈ a := by
  constructor
  · intro h
    obtain ⟨j, hj, e⟩ := List.mem_map.mp h
    cases e; exact hj
  · exact fun h => List.mem_map.mpr ⟨i, h, rfl⟩
theorem inD_ints (i : Int) (a : List Int) : inD (.int i) (.lst (a.map D.int)) = .ok (.bl (decide (i ∈ a))) := by
  rw [inD_l (nd_int i) (nd_ints a)]
  congr 2
  exact decide_eq_decide.mpr mem_ints
theorem map_int_inj : ∀ {a b : List Int}, a.map D.int = b.map D.int → a = b
  | [], [], _ => rfl
  | [], _ :: _, h => by cases h
  | _ :: _, [], h => by cases h
  | a :: as, b :: bs, h => by
    rw [List.map_cons, List.map_cons] at h
    injection h with h1 h2
    injection h1 with h1
    rw [h1, map_int_inj h2]
theorem eqD_ints (a b : List Int) : eqD (.lst (a.map D.int)) (.lst (b.map D.int)) = .ok (.bl (decide (a = b))) := by
  rw [eqD_l (nd_ints a) (nd_ints b)]
  congr 2
  exact decide_eq_decide.mpr ⟨fun h => by injection h with h; exact map_int_inj h, fun h => by rw [h]⟩
theorem neD_ints (a b : List Int) : neD (.lst (a.map D.int)) (.lst (b.map D.int)) = .ok (.bl (!decide (a = b))) := by
  rw [neD_l (nd_ints a) (nd_ints b)]
  congr 3
  exact decide_eq_decide.mpr ⟨fun h => by injection h with h; exact map_int_inj h, fun h => by rw [h]⟩
end Cn
namespace Cn
open PySem PySem.Spec PyProof.Rows L2
instance decR : DecidableEq (R D)
  | .ok a, .ok b => if h : a = b then .isTrue (by rw [h]) else .isFalse (fun e => by injection e with e; exact h e)
  | .ex a, .ex b => if h : a = b then .isTrue (by rw [h]) else .isFalse (fun e => by injection e with e; exact h e)
  | .stuck, .stuck => .isTrue rfl
  | .ok _, .ex _ => .isFalse (fun e => by cases e)
  | .ok _, .stuck => .isFalse (fun e => by cases e)
  | .ex _, .ok _ => .isFalse (fun e => by cases e)
  | .ex _, .stuck => .isFalse (fun e => by cases e)
  | .stuck, .ok _ => .isFalse (fun e => by cases e)
  | .stuck, .ex _ => .isFalse (fun e => by cases e)
theorem rgL_nil {a b : Int} (h : b ≤ a) : rgL a b = [] := by
  unfold rgL
  rw [show (b - a).toNat = 0 by omega]; rfl
theorem rgL_cons {a b : Int} (h : a < b) : rgL a b = .int a :: rgL (a + 1) b := by
  unfold rgL
  rw [show (b - a).toNat = (b - (a + 1)).toNat + 1 by omega, List.range_succ_eq_map, List.map_cons, List.map_map]
  congr 1
  · congr 1
    omega
  · apply List.map_congr_left
    intro k _
    show D.int (a + ((k + 1 : Nat) : Int)) = D.int (a + 1 + (k : Int))
    congr 1
    omega
theorem B62_ok {i : Int} (h : -1000000 ≤ i ∧ i ≤ 1000000) : B62 i = true := by
  rw [B62_iff]
  omega
theorem rg1_ok {j : Int} (h : -1000000 ≤ j ∧ j ≤ 1000000) : rg1D (.int j) = .ok (rgL 0 j) := by
  show (if B62 j = true then _ else _) = _
  rw [B62_ok h, if_pos rfl]
theorem rg2_ok {i j : Int} (h : -1000000 ≤ i ∧ i ≤ 1000000) (h' : -1000000 ≤ j ∧ j ≤ 1000000) : rg2D (.int i) (.int j) = .ok (rgL i j) := by
  show (if (B62 i && B62 j) = true then _ else _) = _
  rw [B62_ok h, B62_ok h']; rfl
/-- a list's member at a number by the length -/
theorem ix_mem {ds : List D} (h : ds ≠ []) (c : Int) : ∃ d ∈ ds, ixD (.lst ds) (.int (c % (ds.length : Int))) = .ok d := by
  have hl : 0 < ds.length := List.length_pos_iff.mpr h
  have h1 := Int.emod_nonneg c (show (ds.length : Int) ≠ 0 by omega)
  have h2 := Int.emod_lt_of_pos c (show (0 : Int) < (ds.length : Int) by omega)
  generalize c % (ds.length : Int) = i at h1 h2
  obtain ⟨k, rfl⟩ : ∃ k : Nat, i = (k : Int) := ⟨i.toNat, by omega⟩
  have hk : k < ds.length := by omega
  refine ⟨ds[k], List.getElem_mem hk, ?_⟩
  have e : atI ds (k : Int) = some ds[k] := atI_nat (List.getElem?_eq_getElem hk)
  simp only [ixD, e]
end Cn

namespace Cn
open PySem PySem.Spec PyProof.Rows L2
abbrev iN (n : Nat) : D := .int (n : Int)
abbrev nl (l : List Nat) : D := .lst (l.map iN)
abbrev nll (l : List (List Nat)) : D := .lst (l.map nl)
def mexF (l : List Nat) : Nat → Nat → Nat
  | 0, n => n
  | f + 1, n => if n ∈ l then mexF l f (n + 1) else n
theorem mexF_ge (l : List Nat) : ∀ f n, n ≤ mexF l f n
  | 0, n => Nat.le_refl n
  | f + 1, n => by
    unfold mexF
    split
    · have := mexF_ge l f (n + 1); omega
    · exact Nat.le_refl n
theorem mexF_le (l : List Nat) : ∀ f n, mexF l f n ≤ n + f
  | 0, n => Nat.le_refl n
  | f + 1, n => by
    unfold mexF
    split
    · have := mexF_le l f (n + 1); omega
    · omega
theorem mexF_mem (l : List Nat) : ∀ f n k, n ≤ k → k < mexF l f n → k ∈ l
  | 0, n, k, h, h' => by unfold mexF at h'; omega
  | f + 1, n, k, h, h' => by
    unfold mexF at h'
    split at h'
    · rename_i hn
      by_cases e : k = n
      · subst e; exact hn
      · exact mexF_mem l f (n + 1) k (by omega) h'
    · omega
theorem mexF_not (l : List Nat) : ∀ f n, mexF l f n < n + f → mexF l f n ∉ l
  | 0, n, h => by unfold mexF at h; omega
  | f + 1, n, h => by
    unfold mexF at h ⊢
    split
    · rename_i hn
      rw [if_pos hn] at h
      exact mexF_not l f (n + 1) (by omega)
    · assumption
def maxL : List Nat → Nat
  | [] => 0
  | a :: r => max a (maxL r)
theorem le_maxL : ∀ {l : List Nat} {a : Nat}, a ∈ l → a ≤ maxL l
  | b :: r, a, h => by
    unfold maxL
    rcases List.mem_cons.mp h with rfl | h
    · omega
    · have := le_maxL h; omega
/-- the least number that is none of them -/
def mexL (l : List Nat) : Nat := mexF l (maxL l + 1) 0
theorem mexL_mem {l : List Nat} {k : Nat} (h : k < mexL l) : k ∈ l := mexF_mem l _ 0 k (by omega) h
theorem mexL_not (l : List Nat) : mexL l ∉ l := by
  intro h
  have h1 := le_maxL h
  exact mexF_not l (maxL l + 1) 0 (by unfold mexL at h1; omega) h
theorem mexL_uniq {l : List Nat} {n : Nat} (h1 : ∀ k < n, k ∈ l) (h2 : n ∉ l) : n = mexL l := by
  have a := mexL_not l
  by_cases e : n < mexL l
  · exact (h2 (mexL_mem e)).elim
  · by_cases e2 : mexL l < n
    · exact (a (h1 _ e2)).elim
    · omega
theorem mexL_congr {l l' : List Nat} (h : ∀ n, n ∈ l ↔ n ∈ l') : mexL l = mexL l' :=
  mexL_uniq (fun k hk => (h k).mp (mexL_mem hk)) fun z => mexL_not l ((h _).mpr z)
theorem whileF_mex {f : EF} {F : SFn} {st : Nat → En} {l : List Nat} (hc : ∀ n, f (st n) = .ok (.bl (decide (n ∈ l)))) (hb : ∀ n, F (st n) = .nx (st (n + 1))) :
    ∀ (fuel n : Nat), n ≤ mexL l → mexL l < n + fuel → whileF f F fuel (st n) = .nx (st (mexL l))
  | 0, n, h, h' => by omega
  | fuel + 1, n, h, h' => by
    rw [whileF_s, hc n]
    by_cases e : n ∈ l
    · rw [decide_eq_true e, rOut_ok]
      dsimp only
      rw [hb n]
      dsimp only
      have hne : n ≠ mexL l := fun z => mexL_not l (z ▸ e)
      exact whileF_mex hc hb fuel (n + 1) (by omega) (by omega)
    · rw [decide_eq_false e, rOut_ok]
      dsimp only
      have : n = mexL l := by
        by_cases z : n < mexL l
        · exact (e (mexL_mem z)).elim
        · omega
      rw [this]
theorem forL_drop {J : Type} {ga : D → En → Option En} {F : SFn} {ds : List D} {st : Nat → J → En} (h : ∀ (i : Nat) (hi : i < ds.length) (s : J), ∃ e s', ga ds[i] (st i s) = some e ∧ F e = .nx (st (i + 1) s')) :
    ∀ (d k : Nat) (s : J), k + d = ds.length → ∃ s', forL ga F (ds.drop k) (st k s) = .nx (st ds.length s')
  | 0, k, s, hk => by
    obtain rfl : k = ds.length := by omega
    rw [List.drop_length]
    exact ⟨s, rfl⟩
  | d + 1, k, s, hk => by
    have hi : k < ds.length := by omega
    obtain ⟨e, s1, h1, h2⟩ := h k hi s
    obtain ⟨s2, ih⟩ := forL_drop h d (k + 1) s1 (by omega)
    refine ⟨s2, ?_⟩
    rw [List.drop_eq_getElem_cons hi, forL_cons, h1]
    dsimp only
    rw [h2]
    exact ih
theorem forL_ix {J : Type} {ga : D → En → Option En} {F : SFn} (ds : List D) (st : Nat → J → En) (s : J) (h : ∀ (i : Nat) (hi : i < ds.length) (s : J), ∃ e s', ga ds[i] (st i s) = some e ∧ F e = .nx (st (i + 1) s')) :
    ∃ s', forL ga F ds (st 0 s) = .nx (st ds.length s') := forL_drop h ds.length 0 s (by omega)
/-- a comprehension without a condition -/
theorem compL_all {j : Nat} {e : EF} {env : En} {g : D → D} : ∀ {ds : List D}, (∀ d ∈ ds, e (env.set j (.val d)) = .ok (g d)) → compL j eYes e env ds = .ok (ds.map g)
  | [], _ => rfl
  | d :: r, h => by
    rw [compL_cons, show eYes (env.set j (.val d)) = .ok (.bl true) from rfl]
    dsimp only
    rw [h d (List.mem_cons_self ..)]
    dsimp only
    rw [compL_all (g := g) (fun x hx => h x (List.mem_cons_of_mem _ hx)), bind_ok, List.map_cons]
/-- .. and with one -/
theorem compL_if {j : Nat} {t e : EF} {env : En} {p : D → Bool} {g : D → D} : ∀ {ds : List D}, (∀ d ∈ ds, t (env.set j (.val d)) = .ok (.bl (p d))) → (∀ d ∈ ds, p d = true → e (env.set j (.val d)) = .ok (g d)) → compL j t e env ds = .ok ((ds.filter p).map g)
  | [], _, _ => rfl
  | d :: r, h, h' => by
    rw [compL_cons, h d (List.mem_cons_self ..)]
    have ih := compL_if (p := p) (g := g) (fun x hx => h x (List.mem_cons_of_mem _ hx)) (fun x hx => h' x (List.mem_cons_of_mem _ hx))
    cases hp : p d with
    | true =>
      dsimp only
      rw [h' d (List.mem_cons_self ..) hp]
      dsimp only
      rw [ih, bind_ok, List.filter_cons_of_pos hp, List.map_cons]
    | false =>
      dsimp only
      rw [ih, List.filter_cons_of_neg (by rw [hp]; exact Bool.false_ne_true)]
def ovr (f : Nat → Nat) (s : List Nat) : Nat := s.foldl (fun t p => t ^^^ f p) 0
theorem ovr_from (f : Nat → Nat) : ∀ (s : List Nat) (t : Nat), s.foldl (fun t p => t ^^^ f p) t = t ^^^ ovr f s
  | [], t => by simp [ovr]
  | a :: r, t => by
    have h1 := ovr_from f r (t ^^^ f a)
    have h2 := ovr_from f r (0 ^^^ f a)
    rw [List.foldl_cons, h1]
    show _ = t ^^^ (List.foldl _ (0 ^^^ f a) r)
    rw [h2, Nat.zero_xor, Nat.xor_assoc]
theorem ovr_nil (f : Nat → Nat) : ovr f [] = 0 := rfl
theorem ovr_cons (f : Nat → Nat) (a : Nat) (r : List Nat) : ovr f (a :: r) = f a ^^^ ovr f r := by
  show List.foldl _ (0 ^^^ f a) r = _
  rw [ovr_from, Nat.zero_xor]
theorem ovr_append (f : Nat → Nat) : ∀ (s r : List Nat), ovr f (s ++ r) = ovr f s ^^^ ovr f r
  | [], r => by rw [List.nil_append, ovr_nil, Nat.zero_xor]
  | a :: s, r => by rw [List.cons_append, ovr_cons, ovr_cons, ovr_append f s r, Nat.xor_assoc]
theorem ovr_congr {f g : Nat → Nat} : ∀ {s : List Nat}, (∀ p ∈ s, f p = g p) → ovr f s = ovr g s
  | [], _ => rfl
  | a :: r, h => by rw [ovr_cons, ovr_cons, h a (List.mem_cons_self ..), ovr_congr fun p hp => h p (List.mem_cons_of_mem _ hp)]
/-- where a sum is not nought, one of its numbers gets less by it -/
theorem ovr_less {f : Nat → Nat} {s : List Nat} (h : ovr f s ≠ 0) : ∃ p ∈ s, f p ^^^ ovr f s < f p := by
  generalize ht : ovr f s = t at h
  obtain ⟨i, hi, hb⟩ := Nat.exists_ge_and_testBit_of_ge_two_pow (Nat.log2_self_le h)
  have hlt : t < 2 ^ (t.log2 + 1) := Nat.lt_log2_self
  have hi2 : i = t.log2 := by
    by_cases e : t.log2 + 1 ≤ i
    · have : t < 2 ^ i := Nat.lt_of_lt_of_le hlt (Nat.pow_le_pow_right (by decide) e)
      rw [Nat.testBit_lt_two_pow this] at hb
      cases hb
    · omega
  have hup : ∀ j, i < j → t.testBit j = false := fun j hj => Nat.testBit_lt_two_pow (Nat.lt_of_lt_of_le hlt (Nat.pow_le_pow_right (by decide) (by omega)))
  have hex : ∀ (r : List Nat), (ovr f r).testBit i = true → ∃ p ∈ r, (f p).testBit i = true := by
    intro r
    induction r with
    | nil => intro z; rw [ovr_nil, Nat.zero_testBit] at z; cases z
    | cons a r ih =>
      intro z
      rw [ovr_cons, Nat.testBit_xor] at z
      cases ha : (f a).testBit i with
      | true => exact ⟨a, List.mem_cons_self .., ha⟩
      | false =>
        rw [ha, Bool.false_xor] at z
        obtain ⟨p, h1, h2⟩ := ih z
        exact ⟨p, List.mem_cons_of_mem _ h1, h2⟩
  obtain ⟨p, hp, hpb⟩ := hex s (by rw [ht]; exact hb)
  refine ⟨p, hp, ?_⟩
  generalize f p = a at hpb
  rw [Nat.testBit_eq_decide_div_mod_eq, decide_eq_true_eq] at hpb hb
  have e1 : (a ^^^ t) / 2 ^ (i + 1) = a / 2 ^ (i + 1) := by
    rw [Nat.xor_div_two_pow, Nat.div_eq_of_lt (show t < 2 ^ (i + 1) by rw [hi2]; exact hlt), Nat.xor_zero]
  have e2 : (a ^^^ t) / 2 ^ i % 2 = 0 := by
    rw [Nat.xor_div_two_pow]
    have o1 := @Nat.xor_mod_two_eq_one (a / 2 ^ i) (t / 2 ^ i)
    omega
  have e3 : ∀ x : Nat, x / 2 ^ (i + 1) = x / 2 ^ i / 2 := fun x => by rw [Nat.pow_succ, Nat.div_div_eq_div_mul]
  rw [e3, e3] at e1
  refine Nat.lt_of_not_le fun hle => ?_
  have := Nat.div_le_div_right (c := 2 ^ i) hle
  omega
/-- the numbers of the places, by the shapes that end at each -/
def stepN (S : Nat → List (List Nat)) (l : List Nat) : Nat := mexL ((S l.length).map fun s => ovr (fun p => l.getD p 0) s.dropLast)
def nums (S : Nat → List (List Nat)) : Nat → List Nat
  | 0 => []
  | n + 1 => nums S n ++ [stepN S (nums S n)]
theorem nums_len (S : Nat → List (List Nat)) : ∀ n, (nums S n).length = n
  | 0 => rfl
  | n + 1 => by
    unfold nums
    rw [List.length_append, nums_len S n]; rfl
def num1 (S : Nat → List (List Nat)) (p : Nat) : Nat := stepN S (nums S p)
theorem nums_get (S : Nat → List (List Nat)) : ∀ {n p : Nat}, p < n → (nums S n).getD p 0 = num1 S p
  | 0, p, h => by omega
  | n + 1, p, h => by
    unfold nums
    by_cases e : p < n
    · rw [List.getD_eq_getElem?_getD, List.getElem?_append_left (by rw [nums_len]; exact e), ← List.getD_eq_getElem?_getD, nums_get S e]
    · obtain rfl : p = n := by omega
      rw [List.getD_eq_getElem?_getD, List.getElem?_append_right (by rw [nums_len]; exact Nat.le_refl _), nums_len, Nat.sub_self]
      rfl
/-- what is asked of the shapes -/
def Shaped (S : Nat → List (List Nat)) (p : Nat) : Prop := ∀ s ∈ S p, s = s.dropLast ++ [p] ∧ ∀ q ∈ s.dropLast, q < p
theorem num1_eq {S : Nat → List (List Nat)} {p : Nat} (h : Shaped S p) : num1 S p = mexL ((S p).map fun s => ovr (num1 S) s.dropLast) := by
  unfold num1 stepN
  rw [nums_len]
  congr 1
  apply List.map_congr_left
  intro s hs
  exact ovr_congr fun q hq => nums_get S ((h s hs).2 q hq)
/-- each lesser number is reached, the number itself is not -/
theorem num1_reach {S : Nat → List (List Nat)} {p v : Nat} (h : Shaped S p) (hv : v < num1 S p) : ∃ s ∈ S p, ovr (num1 S) s = num1 S p ^^^ v := by
  rw [num1_eq h] at hv
  obtain ⟨s, hs, e⟩ := List.mem_map.mp (mexL_mem hv)
  refine ⟨s, hs, ?_⟩
  rw [(h s hs).1, ovr_append, ovr_cons, ovr_nil, Nat.xor_zero, e, Nat.xor_comm]
theorem num1_off {S : Nat → List (List Nat)} {p : Nat} (h : Shaped S p) {s : List Nat} (hs : s ∈ S p) : ovr (num1 S) s ≠ 0 := by
  intro z
  rw [(h s hs).1, ovr_append, ovr_cons, ovr_nil, Nat.xor_zero] at z
  have e : ovr (num1 S) s.dropLast = num1 S p := by
    have := congrArg (· ^^^ num1 S p) z
    simpa [Nat.xor_assoc] using this
  have a := mexL_not ((S p).map fun s => ovr (num1 S) s.dropLast)
  rw [← num1_eq h] at a
  exact a (List.mem_map.mpr ⟨s, hs, e⟩)
theorem ix_nl {l : List Nat} {p : Nat} (h : p < l.length) : ixD (nl l) (iN p) = .ok (iN (l.getD p 0)) := by
  have e : atI (l.map iN) (p : Int) = some (iN (l.getD p 0)) := by
    refine atI_nat ?_
    rw [List.getElem?_map, List.getD_eq_getElem?_getD, List.getElem?_eq_getElem h]
    rfl
  simp only [ixD, e]
theorem xor_iN {a b : Nat} : xorD (iN a) (iN b) = .ok (iN (a ^^^ b)) := by
  rw [xorD_pos (by omega)]; rfl
end Cn

/-! the field, by halves -/
namespace Nf
def F : Nat → Type
  | 0 => Bool
  | k + 1 => F k × F k
def zero : (k : Nat) → F k
  | 0 => false
  | k + 1 => (zero k, zero k)
def one : (k : Nat) → F k
  | 0 => true
  | k + 1 => (zero k, one k)
def top : (k : Nat) → F k
  | 0 => true
  | k + 1 => (top k, zero k)
def add : (k : Nat) → F k → F k → F k
  | 0, x, y => Bool.xor x y
  | k + 1, (x1, x0), (y1, y0) => (add k x1 y1, add k x0 y0)
def mul : (k : Nat) → F k → F k → F k
  | 0, x, y => Bool.and x y
  | k + 1, (x1, x0), (y1, y0) => (add k (mul k x1 y1) (add k (mul k x1 y0) (mul k x0 y1)), add k (mul k x0 y0) (mul k (top k) (mul k x1 y1)))
theorem add_comm : (k : Nat) → (x y : F k) → add k x y = add k y x
  | 0, x, y => Bool.xor_comm x y
  | k + 1, (x1, x0), (y1, y0) => by
    show (add k x1 y1, add k x0 y0) = (add k y1 x1, add k y0 x0)
    rw [add_comm k x1 y1, add_comm k x0 y0]
theorem add_assoc : (k : Nat) → (x y z : F k) → add k (add k x y) z = add k x (add k y z)
  | 0, x, y, z => Bool.xor_assoc x y z
  | k + 1, (x1, x0), (y1, y0), (z1, z0) => by
    show (add k (add k x1 y1) z1, add k (add k x0 y0) z0) = (add k x1 (add k y1 z1), add k x0 (add k y0 z0))
    rw [add_assoc k x1, add_assoc k x0]
theorem add_left_comm (k : Nat) (x y z : F k) : add k x (add k y z) = add k y (add k x z) := by
  rw [← add_assoc, add_comm k x y, add_assoc]
theorem add_self : (k : Nat) → (x : F k) → add k x x = zero k
  | 0, x => Bool.xor_self x
  | k + 1, (x1, x0) => by
    show (add k x1 x1, add k x0 x0) = (zero k, zero k)
    rw [add_self k x1, add_self k x0]
theorem zero_add : (k : Nat) → (x : F k) → add k (zero k) x = x
  | 0, x => Bool.false_xor x
  | k + 1, (x1, x0) => by
    show (add k (zero k) x1, add k (zero k) x0) = (x1, x0)
    rw [zero_add k x1, zero_add k x0]
theorem add_zero (k : Nat) (x : F k) : add k x (zero k) = x := by rw [add_comm, zero_add]
theorem add_add (k : Nat) (x y : F k) : add k x (add k x y) = y := by rw [← add_assoc, add_self, zero_add]
theorem mul_comm : (k : Nat) → (x y : F k) → mul k x y = mul k y x
  | 0, x, y => Bool.and_comm x y
  | k + 1, (x1, x0), (y1, y0) => by
    show (add k (mul k x1 y1) (add k (mul k x1 y0) (mul k x0 y1)), add k (mul k x0 y0) (mul k (top k) (mul k x1 y1))) =
      (add k (mul k y1 x1) (add k (mul k y1 x0) (mul k y0 x1)), add k (mul k y0 x0) (mul k (top k) (mul k y1 x1)))
    rw [mul_comm k x1 y1, mul_comm k x1 y0, mul_comm k x0 y1, mul_comm k x0 y0, add_comm k (mul k y0 x1)]
theorem bool_and_xor (x y z : Bool) : Bool.and x (Bool.xor y z) = Bool.xor (Bool.and x y) (Bool.and x z) := by
  cases x <;> cases y <;> cases z <;> rfl
theorem mul_add : (k : Nat) → (x y z : F k) → mul k x (add k y z) = add k (mul k x y) (mul k x z)
  | 0, x, y, z => bool_and_xor x y z
  | k + 1, (x1, x0), (y1, y0), (z1, z0) => by
    show (add k (mul k x1 (add k y1 z1)) (add k (mul k x1 (add k y0 z0)) (mul k x0 (add k y1 z1))), add k (mul k x0 (add k y0 z0)) (mul k (top k) (mul k x1 (add k y1 z1)))) =
      (add k (add k (mul k x1 y1) (add k (mul k x1 y0) (mul k x0 y1))) (add k (mul k x1 z1) (add k (mul k x1 z0) (mul k x0 z1))), add k (add k (mul k x0 y0) (mul k (top k) (mul k x1 y1))) (add k (mul k x0 z0) (mul k (top k) (mul k x1 z1))))
    simp only [mul_add k, add_assoc k, add_comm k, add_left_comm k]
theorem add_mul (k : Nat) (x y z : F k) : mul k (add k y z) x = add k (mul k y x) (mul k z x) := by
  rw [mul_comm k (add k y z), mul_add, mul_comm k x y, mul_comm k x z]
theorem mul_assoc : (k : Nat) → (x y z : F k) → mul k (mul k x y) z = mul k x (mul k y z)
  | 0, x, y, z => Bool.and_assoc x y z
  | k + 1, (x1, x0), (y1, y0), (z1, z0) => by
    have A := mul_assoc k
    have L : ∀ a b c : F k, mul k a (mul k b c) = mul k b (mul k a c) := fun a b c => by rw [← A, mul_comm k a b, A]
    have e1 : ∀ a b c d e : F k, (a, b) = ((c, d) : F k × F k) → (a, b) = ((c, d) : F k × F k) := fun _ _ _ _ _ h => h
    show (add k (mul k (add k (mul k x1 y1) (add k (mul k x1 y0) (mul k x0 y1))) z1) (add k (mul k (add k (mul k x1 y1) (add k (mul k x1 y0) (mul k x0 y1))) z0) (mul k (add k (mul k x0 y0) (mul k (top k) (mul k x1 y1))) z1)),
        add k (mul k (add k (mul k x0 y0) (mul k (top k) (mul k x1 y1))) z0) (mul k (top k) (mul k (add k (mul k x1 y1) (add k (mul k x1 y0) (mul k x0 y1))) z1))) =
      (add k (mul k x1 (add k (mul k y1 z1) (add k (mul k y1 z0) (mul k y0 z1)))) (add k (mul k x1 (add k (mul k y0 z0) (mul k (top k) (mul k y1 z1)))) (mul k x0 (add k (mul k y1 z1) (add k (mul k y1 z0) (mul k y0 z1))))),
        add k (mul k x0 (add k (mul k y0 z0) (mul k (top k) (mul k y1 z1)))) (mul k (top k) (mul k x1 (add k (mul k y1 z1) (add k (mul k y1 z0) (mul k y0 z1))))))
    simp only [mul_add k, add_mul k, A]
    refine Prod.ext ?_ ?_
    · show add k _ _ = add k _ _
      simp only [L x1 (top k)]
      simp only [add_assoc k, add_comm k, add_left_comm k]
    · show add k _ _ = add k _ _
      simp only [L x0 (top k)]
      simp only [add_assoc k, add_comm k, add_left_comm k]
theorem zero_mul : (k : Nat) → (x : F k) → mul k (zero k) x = zero k := fun k x => by
  have h : mul k (zero k) x = add k (mul k (zero k) x) (mul k (zero k) x) := by
    rw [← add_mul, add_self]
  rw [add_self] at h
  exact h
theorem mul_zero (k : Nat) (x : F k) : mul k x (zero k) = zero k := by rw [mul_comm, zero_mul]
theorem one_mul : (k : Nat) → (x : F k) → mul k (one k) x = x
  | 0, x => Bool.true_and x
  | k + 1, (x1, x0) => by
    show (add k (mul k (zero k) x1) (add k (mul k (zero k) x0) (mul k (one k) x1)), add k (mul k (one k) x0) (mul k (top k) (mul k (zero k) x1))) = (x1, x0)
    rw [zero_mul, zero_mul, one_mul k x1, one_mul k x0, mul_zero, zero_add, zero_add, add_zero]
/-! numbers -/
def W (k : Nat) : Nat := 2 ^ 2 ^ k
theorem W_pos (k : Nat) : 0 < W k := Nat.two_pow_pos _
theorem W_succ (k : Nat) : W (k + 1) = W k * W k := by
  unfold W
  rw [Nat.pow_succ 2 k, Nat.pow_mul, Nat.pow_two]
def val : (k : Nat) → F k → Nat
  | 0, x => x.toNat
  | k + 1, (x1, x0) => val k x1 * W k + val k x0
def un : (k : Nat) → Nat → F k
  | 0, a => a % 2 == 1
  | k + 1, a => (un k (a / W k), un k (a % W k))
theorem val_lt : (k : Nat) → (x : F k) → val k x < W k
  | 0, x => by cases x <;> decide
  | k + 1, (x1, x0) => by
    have h1 := val_lt k x1
    have h0 := val_lt k x0
    rw [W_succ]
    show val k x1 * W k + val k x0 < W k * W k
    have h2 : (val k x1 + 1) * W k ≤ W k * W k := Nat.mul_le_mul_right _ h1
    rw [Nat.add_mul, Nat.one_mul] at h2
    omega
theorem un_val : (k : Nat) → (x : F k) → un k (val k x) = x
  | 0, x => by cases x <;> rfl
  | k + 1, (x1, x0) => by
    have h0 := val_lt k x0
    show (un k ((val k x1 * W k + val k x0) / W k), un k ((val k x1 * W k + val k x0) % W k)) = (x1, x0)
    rw [Nat.mul_comm, Nat.mul_add_div (W_pos k), Nat.div_eq_of_lt h0, Nat.add_zero, Nat.mul_add_mod, Nat.mod_eq_of_lt h0, un_val k x1, un_val k x0]
theorem val_un : (k : Nat) → (a : Nat) → a < W k → val k (un k a) = a
  | 0, a, h => by
    have : a = 0 ∨ a = 1 := by
      have : a < 2 := h
      omega
    rcases this with rfl | rfl <;> rfl
  | k + 1, a, h => by
    rw [W_succ] at h
    show val k (un k (a / W k)) * W k + val k (un k (a % W k)) = a
    rw [val_un k _ (Nat.div_lt_of_lt_mul h), val_un k _ (Nat.mod_lt _ (W_pos k)), Nat.mul_comm]
    exact Nat.div_add_mod a (W k)
theorem un_xor : (k : Nat) → (a b : Nat) → un k (a ^^^ b) = add k (un k a) (un k b)
  | 0, a, b => by
    show ((a ^^^ b) % 2 == 1) = Bool.xor (a % 2 == 1) (b % 2 == 1)
    have o1 := @Nat.xor_mod_two_eq_one a b
    have h1 : a % 2 = 0 ∨ a % 2 = 1 := by omega
    have h2 : b % 2 = 0 ∨ b % 2 = 1 := by omega
    have h3 : (a ^^^ b) % 2 = 0 ∨ (a ^^^ b) % 2 = 1 := by omega
    rcases h1 with h1 | h1 <;> rcases h2 with h2 | h2 <;> rcases h3 with h3 | h3 <;> rw [h1, h2, h3] <;> first | rfl | (exfalso; omega)
  | k + 1, a, b => by
    show (un k ((a ^^^ b) / W k), un k ((a ^^^ b) % W k)) = (add k (un k (a / W k)) (un k (b / W k)), add k (un k (a % W k)) (un k (b % W k)))
    rw [← un_xor k, ← un_xor k]
    unfold W
    rw [Nat.xor_div_two_pow, Nat.xor_mod_two_pow]
theorem val_add (k : Nat) (x y : F k) : val k (add k x y) = val k x ^^^ val k y := by
  have h := un_xor k (val k x) (val k y)
  rw [un_val, un_val] at h
  rw [← h, val_un]
  exact Nat.xor_lt_two_pow (val_lt k x) (val_lt k y)
theorem un_zero : (k : Nat) → un k 0 = zero k
  | 0 => rfl
  | k + 1 => by
    show (un k (0 / W k), un k (0 % W k)) = (zero k, zero k)
    rw [Nat.zero_div, Nat.zero_mod, un_zero k]
theorem W_gt (k : Nat) : 1 < W k := by
  unfold W
  have : 0 < 2 ^ k := Nat.two_pow_pos k
  exact Nat.one_lt_two_pow (by omega)
theorem un_one : (k : Nat) → un k 1 = one k
  | 0 => rfl
  | k + 1 => by
    show (un k (1 / W k), un k (1 % W k)) = (zero k, one k)
    rw [Nat.div_eq_of_lt (W_gt k), Nat.mod_eq_of_lt (W_gt k), un_zero k, un_one k]
theorem val_zero (k : Nat) : val k (zero k) = 0 := by rw [← un_zero, val_un k 0 (W_pos k)]
/-- the product of numbers below W k -/
def nim (k a b : Nat) : Nat := val k (mul k (un k a) (un k b))
theorem nim_lt (k a b : Nat) : nim k a b < W k := val_lt k _
theorem nim_comm (k a b : Nat) : nim k a b = nim k b a := by unfold nim; rw [mul_comm]
theorem nim_assoc (k a b c : Nat) : nim k (nim k a b) c = nim k a (nim k b c) := by
  unfold nim
  rw [un_val, un_val, mul_assoc]
theorem nim_add (k a b c : Nat) : nim k a (b ^^^ c) = nim k a b ^^^ nim k a c := by
  unfold nim
  rw [un_xor, mul_add, val_add]
theorem nim_zero (k a : Nat) : nim k 0 a = 0 := by unfold nim; rw [un_zero, zero_mul, val_zero]
theorem nim_one (k a : Nat) (h : a < W k) : nim k 1 a = a := by unfold nim; rw [un_one, one_mul, val_un k a h]
/-- of lesser numbers -/
theorem nim_low (k a b : Nat) (ha : a < W k) (hb : b < W k) : nim (k + 1) a b = nim k a b := by
  unfold nim
  show val (k + 1) (mul (k + 1) (un k (a / W k), un k (a % W k)) (un k (b / W k), un k (b % W k))) = _
  rw [Nat.div_eq_of_lt ha, Nat.div_eq_of_lt hb, Nat.mod_eq_of_lt ha, Nat.mod_eq_of_lt hb, un_zero]
  show val k (add k (mul k (zero k) (zero k)) (add k (mul k (zero k) (un k b)) (mul k (un k a) (zero k)))) * W k + val k (add k (mul k (un k a) (un k b)) (mul k (top k) (mul k (zero k) (zero k)))) = _
  simp only [zero_mul, mul_zero, add_zero, val_zero, Nat.zero_mul, Nat.zero_add]
theorem val_top : (k : Nat) → val k (top k) = W k / 2
  | 0 => rfl
  | k + 1 => by
    show val k (top k) * W k + val k (zero k) = W (k + 1) / 2
    rw [val_top k, val_zero, Nat.add_zero, W_succ]
    have e : W k = 2 * (W k / 2) := by
      unfold W
      have : 0 < 2 ^ k := Nat.two_pow_pos k
      obtain ⟨m, hm⟩ : ∃ m, 2 ^ k = m + 1 := ⟨2 ^ k - 1, by omega⟩
      rw [hm, Nat.pow_succ]
      omega
    generalize W k / 2 = c at *
    rw [e]
    have : 2 * c * (2 * c) = 2 * (c * (2 * c)) := by rw [Nat.mul_assoc]
    omega
/-- by halves, three products and one by the top figure -/
theorem nim_halves (k a b : Nat) : nim (k + 1) a b = (nim k (a / W k ^^^ a % W k) (b / W k ^^^ b % W k) ^^^ nim k (a % W k) (b % W k)) * W k + (nim k (a % W k) (b % W k) ^^^ nim k (nim k (a / W k) (b / W k)) (W k / 2)) := by
  unfold nim
  show val (k + 1) (mul (k + 1) (un k (a / W k), un k (a % W k)) (un k (b / W k), un k (b % W k))) = _
  generalize a / W k = a1
  generalize a % W k = a0
  generalize b / W k = b1
  generalize b % W k = b0
  show val k (add k (mul k (un k a1) (un k b1)) (add k (mul k (un k a1) (un k b0)) (mul k (un k a0) (un k b1)))) * W k + val k (add k (mul k (un k a0) (un k b0)) (mul k (top k) (mul k (un k a1) (un k b1)))) = _
  have e : un k (W k / 2) = top k := by rw [← val_top, un_val]
  rw [e, un_val, ← val_add, ← val_add, un_xor, un_xor, mul_comm k (top k)]
  congr 3
  simp only [mul_add, add_mul, add_assoc]
  rw [add_comm k (mul k (un k a0) (un k b0)) (mul k (un k a0) (un k b0)), add_self, add_zero, add_comm k (mul k (un k a1) (un k b0))]
/-- the same by four products -/
theorem nim_four (k a b : Nat) : nim (k + 1) a b = (nim k (a / W k) (b / W k) ^^^ (nim k (a / W k) (b % W k) ^^^ nim k (a % W k) (b / W k))) * W k + (nim k (a % W k) (b % W k) ^^^ nim k (nim k (a / W k) (b / W k)) (W k / 2)) := by
  unfold nim
  show val (k + 1) (mul (k + 1) (un k (a / W k), un k (a % W k)) (un k (b / W k), un k (b % W k))) = _
  generalize a / W k = a1
  generalize a % W k = a0
  generalize b / W k = b1
  generalize b % W k = b0
  show val k (add k (mul k (un k a1) (un k b1)) (add k (mul k (un k a1) (un k b0)) (mul k (un k a0) (un k b1)))) * W k + val k (add k (mul k (un k a0) (un k b0)) (mul k (top k) (mul k (un k a1) (un k b1)))) = _
  have e : un k (W k / 2) = top k := by rw [← val_top, un_val]
  rw [e, un_val, ← val_add, ← val_add, ← val_add, mul_comm k (top k)]
end Nf

namespace Coin
open PySem PySem.Spec PyProof.Rows L2 Cn
def topS (i : Nat) : Stmt := PySem.Challenge.pw_coinrows_k14_first_replies_on_boards.main.body.getD i (.Pass ⟨0, 0, 0, 0⟩)
abbrev s_asked_number : Stmt := topS 8
abbrev N_asked_number : List Str := ["number"]
theorem sc_asked_number : FnScope N_asked_number ["number"] (defScope s_asked_number) := ⟨rfl, rfl, rfl, by decide +kernel, rfl, by decide +kernel, by decide +kernel⟩
abbrev s_product : Stmt := topS 9
abbrev N_product : List Str := ["one", "two", "base", "lower", "high", "low", "mixed"]
theorem sc_product : FnScope N_product ["one", "two", "base"] (defScope s_product) := ⟨rfl, rfl, rfl, by decide +kernel, rfl, by decide +kernel, by decide +kernel⟩
abbrev s_times : Stmt := topS 10
abbrev N_times : List Str := ["one", "two"]
theorem sc_times : FnScope N_times ["one", "two"] (defScope s_times) := ⟨rfl, rfl, rfl, by decide +kernel, rfl, by decide +kernel, by decide +kernel⟩
abbrev s_asked_rule : Stmt := topS 13
abbrev N_asked_rule : List Str := ["rule", "most"]
theorem sc_asked_rule : FnScope N_asked_rule ["rule"] (defScope s_asked_rule) := ⟨rfl, rfl, rfl, by decide +kernel, rfl, by decide +kernel, by decide +kernel⟩
abbrev s_picks : Stmt := topS 14
abbrev N_picks : List Str := ["count", "below", "one", "found", "two"]
theorem sc_picks : FnScope N_picks ["count", "below"] (defScope s_picks) := ⟨rfl, rfl, rfl, by decide +kernel, rfl, by decide +kernel, by decide +kernel⟩
abbrev s_shapes : Stmt := topS 15
abbrev N_shapes : List Str := ["rule", "last", "found", "first", "least", "count", "pick"]
theorem sc_shapes : FnScope N_shapes ["rule", "last"] (defScope s_shapes) := ⟨rfl, rfl, rfl, by decide +kernel, rfl, by decide +kernel, by decide +kernel⟩
abbrev s_numbers : Stmt := topS 16
abbrev N_numbers : List Str := ["rule", "most", "found", "place", "reached", "shape", "number", "lower"]
theorem sc_numbers : FnScope N_numbers ["rule", "most"] (defScope s_numbers) := ⟨rfl, rfl, rfl, by decide +kernel, rfl, by decide +kernel, by decide +kernel⟩
abbrev s_over : Stmt := topS 17
abbrev N_over : List Str := ["found", "places", "total", "place"]
theorem sc_over : FnScope N_over ["found", "places"] (defScope s_over) := ⟨rfl, rfl, rfl, by decide +kernel, rfl, by decide +kernel, by decide +kernel⟩
abbrev s_asked_board : Stmt := topS 20
abbrev N_asked_board : List Str := ["heads", "before", "pair"]
theorem sc_asked_board : FnScope N_asked_board ["heads"] (defScope s_asked_board) := ⟨rfl, rfl, rfl, by decide +kernel, rfl, by decide +kernel, by decide +kernel⟩
abbrev s_board_value : Stmt := topS 21
abbrev N_board_value : List Str := ["rule_x", "rule_y", "heads", "by_x", "pair", "by_y", "total"]
theorem sc_board_value : FnScope N_board_value ["rule_x", "rule_y", "heads"] (defScope s_board_value) := ⟨rfl, rfl, rfl, by decide +kernel, rfl, by decide +kernel, by decide +kernel⟩
abbrev s_board_reply : Stmt := topS 22
abbrev N_board_reply : List Str := ["rule_x", "rule_y", "heads", "total", "by_x", "pair", "by_y", "xs", "ys"]
theorem sc_board_reply : FnScope N_board_reply ["rule_x", "rule_y", "heads"] (defScope s_board_reply) := ⟨rfl, rfl, rfl, by decide +kernel, rfl, by decide +kernel, by decide +kernel⟩
abbrev s__law_cell_at : Stmt := topS 24
abbrev N__law_cell_at : List Str := ["script", "k"]
theorem sc__law_cell_at : FnScope N__law_cell_at ["script", "k"] (defScope s__law_cell_at) := ⟨rfl, rfl, rfl, by decide +kernel, rfl, by decide +kernel, by decide +kernel⟩
abbrev s__law_rule : Stmt := topS 25
abbrev N__law_rule : List Str := ["cell", "most"]
theorem sc__law_rule : FnScope N__law_rule ["cell", "most"] (defScope s__law_rule) := ⟨rfl, rfl, rfl, by decide +kernel, rfl, by decide +kernel, by decide +kernel⟩
abbrev s__law_far : Stmt := topS 26
abbrev N__law_far : List Str := ["script", "chosen", "k", "cell"]
theorem sc__law_far : FnScope N__law_far ["script"] (defScope s__law_far) := ⟨rfl, rfl, rfl, by decide +kernel, rfl, by decide +kernel, by decide +kernel⟩
abbrev s__law_board : Stmt := topS 27
abbrev N__law_board : List Str := ["cell", "heads", "k"]
theorem sc__law_board : FnScope N__law_board ["cell"] (defScope s__law_board) := ⟨rfl, rfl, rfl, by decide +kernel, rfl, by decide +kernel, by decide +kernel⟩
abbrev s__law_shapes : Stmt := topS 28
abbrev N__law_shapes : List Str := ["rule", "last", "found", "many", "k", "one", "two"]
theorem sc__law_shapes : FnScope N__law_shapes ["rule", "last"] (defScope s__law_shapes) := ⟨rfl, rfl, rfl, by decide +kernel, rfl, by decide +kernel, by decide +kernel⟩
abbrev s__law_numbers : Stmt := topS 29
abbrev N__law_numbers : List Str := ["rule", "many", "told", "place", "seen", "shape", "total", "other", "least"]
theorem sc__law_numbers : FnScope N__law_numbers ["rule", "many"] (defScope s__law_numbers) := ⟨rfl, rfl, rfl, by decide +kernel, rfl, by decide +kernel, by decide +kernel⟩
abbrev s__law_times : Stmt := topS 30
abbrev N__law_times : List Str := ["one", "two", "level", "base", "high", "cross", "low"]
theorem sc__law_times : FnScope N__law_times ["one", "two", "level"] (defScope s__law_times) := ⟨rfl, rfl, rfl, by decide +kernel, rfl, by decide +kernel, by decide +kernel⟩
abbrev s__law_over : Stmt := topS 31
abbrev N__law_over : List Str := ["table", "places", "total", "place"]
theorem sc__law_over : FnScope N__law_over ["table", "places"] (defScope s__law_over) := ⟨rfl, rfl, rfl, by decide +kernel, rfl, by decide +kernel, by decide +kernel⟩
abbrev s__law_crossed : Stmt := topS 32
abbrev N__law_crossed : List Str := ["xs", "ys", "places", "x", "y"]
theorem sc__law_crossed : FnScope N__law_crossed ["xs", "ys"] (defScope s__law_crossed) := ⟨rfl, rfl, rfl, by decide +kernel, rfl, by decide +kernel, by decide +kernel⟩
abbrev s__law_first : Stmt := topS 33
abbrev N__law_first : List Str := ["rules", "table", "heads", "total", "place", "xs", "ys"]
theorem sc__law_first : FnScope N__law_first ["rules", "table", "heads"] (defScope s__law_first) := ⟨rfl, rfl, rfl, by decide +kernel, rfl, by decide +kernel, by decide +kernel⟩
abbrev s__law_is_turn : Stmt := topS 34
abbrev N__law_is_turn : List Str := ["found", "due", "k", "n"]
theorem sc__law_is_turn : FnScope N__law_is_turn ["found", "due"] (defScope s__law_is_turn) := ⟨rfl, rfl, rfl, by decide +kernel, rfl, by decide +kernel, by decide +kernel⟩
abbrev s_law : Stmt := topS 35
abbrev N_law : List Str := ["script", "many", "rules", "heads", "by_y", "table", "one", "two", "handed", "found", "due", "turned", "behind", "x", "y"]
theorem sc_law : FnScope N_law ["script"] (defScope s_law) := ⟨rfl, rfl, rfl, by decide +kernel, rfl, by decide +kernel, by decide +kernel⟩
def b_asked_number : SFn :=
  (sIf (eOr (eOp ltD (eV 0) (eC (.int 0))) (eOp geD (eV 0) (eC (.int 65536))))
    (sRaise "NoNumber")
    sNil)
def fn_asked_number : List D → R D := runF 1 b_asked_number
def b_product (rec : List D → R D) : SFn :=
  (sSeq (sIf (eOr (eOp ltD (eV 0) (eC (.int 2))) (eOp ltD (eV 1) (eC (.int 2))))
    (sRet (eOp mulD (eV 0) (eV 1)))
    sNil)
    (sSeq (sAsg 3 (eUn lowerD (eV 2)))
    (sSeq (sIf (eAnd (eOp ltD (eV 0) (eV 2)) (eOp ltD (eV 1) (eV 2)))
    (sRet (eCall rec (aCons (eV 0) (aCons (eV 1) (aCons (eV 3) aNil)))))
    sNil)
    (sSeq (sAsg 4 (eCall rec (aCons (eOp fdivD (eV 0) (eV 2)) (aCons (eOp fdivD (eV 1) (eV 2)) (aCons (eV 3) aNil)))))
    (sSeq (sAsg 5 (eCall rec (aCons (eOp modD (eV 0) (eV 2)) (aCons (eOp modD (eV 1) (eV 2)) (aCons (eV 3) aNil)))))
    (sSeq (sAsg 6 (eCall rec (aCons (eOp xorD (eOp fdivD (eV 0) (eV 2)) (eOp modD (eV 0) (eV 2))) (aCons (eOp xorD (eOp fdivD (eV 1) (eV 2)) (eOp modD (eV 1) (eV 2))) (aCons (eV 3) aNil)))))
    (sRet (eOp addD (eOp mulD (eOp xorD (eV 6) (eV 5)) (eV 2)) (eOp xorD (eV 5) (eCall rec (aCons (eV 4) (aCons (eOp fdivD (eV 2) (eC (.int 2))) (aCons (eV 3) aNil)))))))))))))
def fn_product : Nat → List D → R D
  | 0 => fun _ => .stuck
  | n + 1 => runF 7 (b_product (fn_product n))
def b_times : SFn :=
  (sSeq (sExpr (eCall fn_asked_number (aCons (eV 0) aNil)))
    (sSeq (sExpr (eCall fn_asked_number (aCons (eV 1) aNil)))
    (sRet (eCall (fn_product 6) (aCons (eV 0) (aCons (eV 1) (aCons (eC (.int 256)) aNil)))))))
def fn_times : List D → R D := runF 2 b_times
def b_asked_rule : SFn :=
  (sSeq (sAsg 1 (eC (.int 0)))
    (sSeq (sIf (eOr (eOp eqD (eOp ixD (eV 0) (eC (.int 0))) (eC (.str "most"))) (eOp eqD (eOp ixD (eV 0) (eC (.int 0))) (eC (.str "just"))))
    (sAsg 1 (eC (.int 3)))
    sNil)
    (sSeq (sIf (eOp eqD (eOp ixD (eV 0) (eC (.int 0))) (eC (.str "run")))
    (sAsg 1 (eC (.int 40)))
    sNil)
    (sIf (eOr (eOp ltD (eOp ixD (eV 0) (eC (.int 1))) (eC (.int 1))) (eOp gtD (eOp ixD (eV 0) (eC (.int 1))) (eV 1)))
    (sRaise "NoRule")
    sNil))))
def fn_asked_rule : List D → R D := runF 2 b_asked_rule
def b_picks : SFn :=
  (sSeq (sIf (eOp eqD (eV 0) (eC (.int 0)))
    (sRet (eLst (aCons (eLst aNil) aNil)))
    sNil)
    (sSeq (sIf (eOp eqD (eV 0) (eC (.int 1)))
    (sRet (eComp (iR1 (eV 1)) 2 eYes (eLst (aCons (eV 2) aNil))))
    sNil)
    (sSeq (sOwn 3 (eLst aNil))
    (sSeq (sFor (iR1 (eV 1)) (tgN 2)
    (sFor (iR2 (eOp addD (eV 2) (eC (.int 1))) (eV 1)) (tgN 4)
    (sApp 3 (eLst (aCons (eV 2) (aCons (eV 4) aNil))))))
    (sRetO 3)))))
def fn_picks : List D → R D := runF 5 b_picks
def b_shapes : SFn :=
  (sSeq (sOwn 2 (eLst aNil))
    (sSeq (sIf (eOp eqD (eOp ixD (eV 0) (eC (.int 0))) (eC (.str "run")))
    (sSeq (sFor (iR3 (eV 1) (eOp max2D (eUn negD (eC (.int 1))) (eOp subD (eV 1) (eOp ixD (eV 0) (eC (.int 1))))) (eUn negD (eC (.int 1)))) (tgN 3)
    (sApp 2 (eOp lrD (eV 3) (eOp addD (eV 1) (eC (.int 1))))))
    (sRetO 2))
    sNil)
    (sSeq (sAsg 4 (eC (.int 1)))
    (sSeq (sIf (eOp eqD (eOp ixD (eV 0) (eC (.int 0))) (eC (.str "just")))
    (sAsg 4 (eOp ixD (eV 0) (eC (.int 1))))
    sNil)
    (sSeq (sFor (iR2 (eV 4) (eOp addD (eOp ixD (eV 0) (eC (.int 1))) (eC (.int 1)))) (tgN 5)
    (sFor (iL (eCall fn_picks (aCons (eOp subD (eV 5) (eC (.int 1))) (aCons (eV 1) aNil)))) (tgN 6)
    (sApp 2 (eOp addD (eV 6) (eLst (aCons (eV 1) aNil))))))
    (sRetO 2))))))
def fn_shapes : List D → R D := runF 7 b_shapes
def b_numbers : SFn :=
  (sSeq (sOwn 2 (eLst aNil))
    (sSeq (sFor (iR1 (eOp addD (eV 1) (eC (.int 1)))) (tgN 3)
    (sSeq (sOwn 4 (eC (.dct [])))
    (sSeq (sFor (iL (eCall fn_shapes (aCons (eV 0) (aCons (eV 3) aNil)))) (tgN 5)
    (sSeq (sAsg 6 (eC (.int 0)))
    (sSeq (sFor (iL (eSl (eV 5) oNone (oSome (eUn negD (eC (.int 1)))))) (tgN 7)
    (sAsg 6 (eOp xorD (eV 6) (eOp ixD (eO 2) (eV 7)))))
    (sPutD 4 (eV 6)))))
    (sSeq (sAsg 6 (eC (.int 0)))
    (sSeq (sWhile 100000 (eOp inD (eV 6) (eO 4))
    (sAsg 6 (eOp addD (eV 6) (eC (.int 1)))))
    (sApp 2 (eV 6)))))))
    (sRetO 2)))
def fn_numbers : List D → R D := runF 8 b_numbers
def b_over : SFn :=
  (sSeq (sAsg 2 (eC (.int 0)))
    (sSeq (sFor (iL (eV 1)) (tgN 3)
    (sAsg 2 (eOp xorD (eV 2) (eOp ixD (eV 0) (eV 3)))))
    (sRet (eV 2))))
def fn_over : List D → R D := runF 4 b_over
def b_asked_board : SFn :=
  (sSeq (sAsg 1 (eTup (aCons (eUn negD (eC (.int 1))) (aCons (eC (.int 0)) aNil))))
    (sFor (iL (eV 0)) (tgN 2)
    (sSeq (sIf (eOr (eOp ltD (eOp ixD (eV 2) (eC (.int 0))) (eC (.int 0))) (eOr (eOp geD (eOp ixD (eV 2) (eC (.int 0))) (eC (.int 16))) (eOr (eOp ltD (eOp ixD (eV 2) (eC (.int 1))) (eC (.int 0))) (eOr (eOp geD (eOp ixD (eV 2) (eC (.int 1))) (eC (.int 16))) (eOp leD (eV 2) (eV 1))))))
    (sRaise "NoBoard")
    sNil)
    (sAsg 1 (eV 2)))))
def fn_asked_board : List D → R D := runF 3 b_asked_board
def b_board_value : SFn :=
  (sSeq (sExpr (eCall fn_asked_rule (aCons (eV 0) aNil)))
    (sSeq (sExpr (eCall fn_asked_rule (aCons (eV 1) aNil)))
    (sSeq (sExpr (eCall fn_asked_board (aCons (eV 2) aNil)))
    (sSeq (sAsg 3 (eCall fn_numbers (aCons (eV 0) (aCons (eUn maxD (eOp addD (eLst (aCons (eC (.int 0)) aNil)) (eComp (iL (eV 2)) 4 eYes (eOp ixD (eV 4) (eC (.int 0)))))) aNil))))
    (sSeq (sAsg 5 (eCall fn_numbers (aCons (eV 1) (aCons (eUn maxD (eOp addD (eLst (aCons (eC (.int 0)) aNil)) (eComp (iL (eV 2)) 4 eYes (eOp ixD (eV 4) (eC (.int 1)))))) aNil))))
    (sSeq (sAsg 6 (eC (.int 0)))
    (sSeq (sFor (iL (eV 2)) (tgN 4)
    (sAsg 6 (eOp xorD (eV 6) (eCall fn_times (aCons (eOp ixD (eV 3) (eOp ixD (eV 4) (eC (.int 0)))) (aCons (eOp ixD (eV 5) (eOp ixD (eV 4) (eC (.int 1)))) aNil))))))
    (sRet (eV 6)))))))))
def fn_board_value : List D → R D := runF 7 b_board_value
noncomputable def b_board_reply : SFn :=
  (sSeq (sAsg 3 (eCall fn_board_value (aCons (eV 0) (aCons (eV 1) (aCons (eV 2) aNil)))))
    (sSeq (sIf (eOp eqD (eV 3) (eC (.int 0)))
    (sRet (eC .non))
    sNil)
    (sSeq (sAsg 4 (eCall fn_numbers (aCons (eV 0) (aCons (eUn maxD (eComp (iL (eV 2)) 5 eYes (eOp ixD (eV 5) (eC (.int 0))))) aNil))))
    (sSeq (sAsg 6 (eCall fn_numbers (aCons (eV 1) (aCons (eUn maxD (eComp (iL (eV 2)) 5 eYes (eOp ixD (eV 5) (eC (.int 1))))) aNil))))
    (sSeq (sFor (iL (eV 2)) (tgN 5)
    (sFor (iL (eCall fn_shapes (aCons (eV 0) (aCons (eOp ixD (eV 5) (eC (.int 0))) aNil)))) (tgN 7)
    (sForP 8 (eCallP fn_shapes (aCons (eV 1) (aCons (eOp ixD (eV 5) (eC (.int 1))) aNil))) fun d => (sIfQ 8 d (eOp eqD (eCall fn_times (aCons (eCall fn_over (aCons (eV 4) (aCons (eV 7) aNil))) (aCons (eCall fn_over (aCons (eV 6) (aCons (eV 8) aNil))) aNil))) (eV 3)) (sRetTwo 7 d) (fun _ env => .nx env)))))
    (sRet (eC .non)))))))
noncomputable def fn_board_reply : List D → R D := runF 9 b_board_reply
def b__law_cell_at : SFn :=
  (sSeq (sIf (eOp ltD (eV 1) (eUn lenD (eV 0)))
    (sRet (eOp ixD (eV 0) (eV 1)))
    sNil)
    (sRet (eC (.int 0))))
def fn__law_cell_at : List D → R D := runF 2 b__law_cell_at
def b__law_rule : SFn :=
  (sSeq (sIf (eOp eqD (eOp modD (eV 0) (eC (.int 3))) (eC (.int 2)))
    (sRet (eTup (aCons (eC (.str "run")) (aCons (eOp addD (eC (.int 1)) (eOp modD (eOp fdivD (eV 0) (eC (.int 3))) (eC (.int 4)))) aNil))))
    sNil)
    (sRet (eTup (aCons (eOp ixD (eLst (aCons (eC (.str "most")) (aCons (eC (.str "just")) aNil))) (eOp modD (eV 0) (eC (.int 3)))) (aCons (eOp addD (eC (.int 1)) (eOp modD (eOp fdivD (eV 0) (eC (.int 3))) (eV 1))) aNil)))))
def fn__law_rule : List D → R D := runF 2 b__law_rule
def b__law_far : SFn :=
  (sSeq (sOwn 1 (eC (.dctT [])))
    (sSeq (sFor (iR1 (eOp addD (eC (.int 1)) (eOp modD (eCall fn__law_cell_at (aCons (eV 0) (aCons (eC (.int 4)) aNil))) (eC (.int 3))))) (tgN 2)
    (sSeq (sAsg 3 (eCall fn__law_cell_at (aCons (eV 0) (aCons (eOp addD (eC (.int 5)) (eV 2)) aNil))))
    (sPutD 1 (eTup (aCons (eOp modD (eV 3) (eC (.int 16))) (aCons (eOp modD (eOp fdivD (eV 3) (eC (.int 16))) (eC (.int 16))) aNil))))))
    (sRet (eUn sortD (eO 1)))))
def fn__law_far : List D → R D := runF 4 b__law_far
def b__law_board : SFn :=
  (sSeq (sOwn 1 (eLst aNil))
    (sSeq (sFor (iR1 (eC (.int 9))) (tgN 2)
    (sSeq (sIf (eOp eqD (eOp modD (eV 0) (eC (.int 2))) (eC (.int 1)))
    (sApp 1 (eTup (aCons (eOp fdivD (eV 2) (eC (.int 3))) (aCons (eOp modD (eV 2) (eC (.int 3))) aNil))))
    sNil)
    (sAsg 0 (eOp fdivD (eV 0) (eC (.int 2))))))
    (sRetO 1)))
def fn__law_board : List D → R D := runF 3 b__law_board
def b__law_shapes : SFn :=
  (sSeq (sOwn 2 (eLst aNil))
    (sSeq (sFor (iR2 (eC (.int 1)) (eOp addD (eOp ixD (eV 0) (eC (.int 1))) (eC (.int 1)))) (tgN 3)
    (sIf (eOp eqD (eOp ixD (eV 0) (eC (.int 0))) (eC (.str "run")))
    (sIf (eOp leD (eV 3) (eOp addD (eV 1) (eC (.int 1))))
    (sApp 2 (eComp (iR1 (eV 3)) 4 eYes (eOp addD (eOp subD (eOp addD (eV 1) (eC (.int 1))) (eV 3)) (eV 4))))
    sNil)
    (sIf (eOr (eOp eqD (eOp ixD (eV 0) (eC (.int 0))) (eC (.str "most"))) (eOp eqD (eV 3) (eOp ixD (eV 0) (eC (.int 1)))))
    (sSeq (sIf (eOp eqD (eV 3) (eC (.int 1)))
    (sApp 2 (eLst (aCons (eV 1) aNil)))
    sNil)
    (sSeq (sIf (eOp eqD (eV 3) (eC (.int 2)))
    (sOwn 2 (eOp catD (eO 2) (eComp (iR1 (eV 1)) 5 eYes (eLst (aCons (eV 5) (aCons (eV 1) aNil))))))
    sNil)
    (sIf (eOp eqD (eV 3) (eC (.int 3)))
    (sFor (iR1 (eV 1)) (tgN 5)
    (sOwn 2 (eOp catD (eO 2) (eComp (iR2 (eOp addD (eV 5) (eC (.int 1))) (eV 1)) 6 eYes (eLst (aCons (eV 5) (aCons (eV 6) (aCons (eV 1) aNil))))))))
    sNil)))
    sNil)))
    (sRetO 2)))
def fn__law_shapes : List D → R D := runF 7 b__law_shapes
def b__law_numbers : SFn :=
  (sSeq (sOwn 2 (eLst aNil))
    (sSeq (sFor (iR1 (eV 1)) (tgN 3)
    (sSeq (sOwn 4 (eC (.dct [])))
    (sSeq (sFor (iL (eCall fn__law_shapes (aCons (eV 0) (aCons (eV 3) aNil)))) (tgN 5)
    (sSeq (sAsg 6 (eC (.int 0)))
    (sSeq (sFor (iL (eSl (eV 5) oNone (oSome (eUn negD (eC (.int 1)))))) (tgN 7)
    (sAsg 6 (eOp xorD (eV 6) (eOp ixD (eO 2) (eV 7)))))
    (sPutD 4 (eV 6)))))
    (sSeq (sAsg 8 (eC (.int 0)))
    (sSeq (sWhile 100000 (eOp inD (eV 8) (eO 4))
    (sAsg 8 (eOp addD (eV 8) (eC (.int 1)))))
    (sApp 2 (eV 8)))))))
    (sRetO 2)))
def fn__law_numbers : List D → R D := runF 9 b__law_numbers
def b__law_times (rec : List D → R D) : SFn :=
  (sSeq (sIf (eOr (eOp ltD (eV 0) (eC (.int 2))) (eOp ltD (eV 1) (eC (.int 2))))
    (sRet (eOp mulD (eV 0) (eV 1)))
    sNil)
    (sSeq (sAsg 3 (eOp ixD (eLst (aCons (eC (.int 2)) (aCons (eC (.int 4)) (aCons (eC (.int 16)) (aCons (eC (.int 256)) aNil))))) (eV 2)))
    (sSeq (sIf (eAnd (eOp ltD (eV 0) (eV 3)) (eOp ltD (eV 1) (eV 3)))
    (sRet (eCall rec (aCons (eV 0) (aCons (eV 1) (aCons (eOp subD (eV 2) (eC (.int 1))) aNil)))))
    sNil)
    (sSeq (sAsg 4 (eCall rec (aCons (eOp fdivD (eV 0) (eV 3)) (aCons (eOp fdivD (eV 1) (eV 3)) (aCons (eOp subD (eV 2) (eC (.int 1))) aNil)))))
    (sSeq (sAsg 5 (eOp xorD (eCall rec (aCons (eOp fdivD (eV 0) (eV 3)) (aCons (eOp modD (eV 1) (eV 3)) (aCons (eOp subD (eV 2) (eC (.int 1))) aNil)))) (eCall rec (aCons (eOp modD (eV 0) (eV 3)) (aCons (eOp fdivD (eV 1) (eV 3)) (aCons (eOp subD (eV 2) (eC (.int 1))) aNil))))))
    (sSeq (sAsg 6 (eCall rec (aCons (eOp modD (eV 0) (eV 3)) (aCons (eOp modD (eV 1) (eV 3)) (aCons (eOp subD (eV 2) (eC (.int 1))) aNil)))))
    (sRet (eOp addD (eOp mulD (eOp xorD (eV 4) (eV 5)) (eV 3)) (eOp xorD (eV 6) (eCall rec (aCons (eV 4) (aCons (eOp fdivD (eV 3) (eC (.int 2))) (aCons (eOp subD (eV 2) (eC (.int 1))) aNil)))))))))))))
def fn__law_times : Nat → List D → R D
  | 0 => fun _ => .stuck
  | n + 1 => runF 7 (b__law_times (fn__law_times n))
def b__law_over : SFn :=
  (sSeq (sAsg 2 (eC (.int 0)))
    (sSeq (sFor (iL (eV 1)) (tgN 3)
    (sAsg 2 (eOp xorD (eV 2) (eOp ixD (eOp ixD (eV 0) (eOp ixD (eV 3) (eC (.int 0)))) (eOp ixD (eV 3) (eC (.int 1)))))))
    (sRet (eV 2))))
def fn__law_over : List D → R D := runF 4 b__law_over
def b__law_crossed : SFn :=
  (sSeq (sAsg 2 (eLst aNil))
    (sSeq (sFor (iL (eV 0)) (tgN 3)
    (sAsg 2 (eOp addD (eV 2) (eComp (iL (eV 1)) 4 eYes (eTup (aCons (eV 3) (aCons (eV 4) aNil)))))))
    (sRet (eV 2))))
def fn__law_crossed : List D → R D := runF 5 b__law_crossed
def b__law_first : SFn :=
  (sSeq (sAsg 3 (eCall fn__law_over (aCons (eV 1) (aCons (eV 2) aNil))))
    (sSeq (sFor (iL (eV 2)) (tgN 4)
    (sFor (iL (eCall fn__law_shapes (aCons (eOp ixD (eV 0) (eC (.int 0))) (aCons (eOp ixD (eV 4) (eC (.int 0))) aNil)))) (tgN 5)
    (sFor (iL (eCall fn__law_shapes (aCons (eOp ixD (eV 0) (eC (.int 1))) (aCons (eOp ixD (eV 4) (eC (.int 1))) aNil)))) (tgN 6)
    (sIf (eOp eqD (eCall fn__law_over (aCons (eV 1) (aCons (eCall fn__law_crossed (aCons (eV 5) (aCons (eV 6) aNil))) aNil))) (eV 3))
    (sRet (eTup (aCons (eV 5) (aCons (eV 6) aNil))))
    sNil))))
    (sRet (eC .non))))
def fn__law_first : List D → R D := runF 7 b__law_first
def b__law_is_turn : SFn :=
  (sSeq (sIf (eOr (eUn notD (eUn (isiD "tuple") (eV 0))) (eOp neD (eUn lenD (eV 0)) (eC (.int 2))))
    (sRet (eC (.bl false)))
    sNil)
    (sSeq (sFor (iR1 (eC (.int 2))) (tgN 2)
    (sSeq (sIf (eOr (eUn notD (eUn (isiD "list") (eOp ixD (eV 0) (eV 2)))) (eOp neD (eUn lenD (eOp ixD (eV 0) (eV 2))) (eUn lenD (eOp ixD (eV 1) (eV 2)))))
    (sRet (eC (.bl false)))
    sNil)
    (sFor (iR1 (eUn lenD (eOp ixD (eV 1) (eV 2)))) (tgN 3)
    (sIf (eOr (eUn notD (eUn (isiD "int") (eOp ixD (eOp ixD (eV 0) (eV 2)) (eV 3)))) (eOr (eUn (isiD "bool") (eOp ixD (eOp ixD (eV 0) (eV 2)) (eV 3))) (eOp neD (eOp ixD (eOp ixD (eV 0) (eV 2)) (eV 3)) (eOp ixD (eOp ixD (eV 1) (eV 2)) (eV 3)))))
    (sRet (eC (.bl false)))
    sNil))))
    (sRet (eC (.bl true)))))
def fn__law_is_turn : List D → R D := runF 4 b__law_is_turn
noncomputable def b_law_p2 : SFn :=
  (sSeq (sIf (eOp neD (eV 8) (eV 3))
    (sRet (eC (.bl false)))
    sNil)
    (sSeq (sIf (eOp eqD (eCall fn__law_over (aCons (eV 5) (aCons (eV 3) aNil))) (eC (.int 0)))
    (sRet (eOp isND (eV 9) (eC .non)))
    sNil)
    (sSeq (sAsg 10 (eCall fn__law_first (aCons (eV 2) (aCons (eV 5) (aCons (eV 3) aNil)))))
    (sSeq (sIf (eOr (eOp isND (eV 10) (eC .non)) (eUn notD (eCall fn__law_is_turn (aCons (eV 9) (aCons (eV 10) aNil)))))
    (sRet (eC (.bl false)))
    sNil)
    (sSeq (fun _ => .stuck)
    (sSeq (sIf (eOp neD (eOp ixD (eV 9) (eC (.int 1))) (eOp ixD (eV 10) (eC (.int 1))))
    (sRet (eC (.bl false)))
    sNil)
    (sSeq (sAsg 11 (eCall fn__law_crossed (aCons (eOp ixD (eV 10) (eC (.int 0))) (aCons (eOp ixD (eV 10) (eC (.int 1))) aNil))))
    (sSeq (sAsg 12 (eLst aNil))
    (sSeq (sFor (iR1 (eV 1)) (tgN 13)
    (sAsg 12 (eOp addD (eV 12) (eComp (iR1 (eV 1)) 14 (eOp neD (eOp inD (eTup (aCons (eV 13) (aCons (eV 14) aNil))) (eV 3)) (eOp inD (eTup (aCons (eV 13) (aCons (eV 14) aNil))) (eV 11))) (eTup (aCons (eV 13) (aCons (eV 14) aNil)))))))
    (sRet (eOp isND (eCall fn_board_reply (aCons (eOp ixD (eV 2) (eC (.int 0))) (aCons (eOp ixD (eV 2) (eC (.int 1))) (aCons (eV 12) aNil)))) (eC .non))))))))))))
noncomputable def b_law_tail : SFn :=
  (sSeq (sAsg 11 (eCall fn__law_crossed (aCons (eOp ixD (eV 10) (eC (.int 0))) (aCons (eOp ixD (eV 10) (eC (.int 1))) aNil))))
    (sSeq (sAsg 12 (eLst aNil))
    (sSeq (sFor (iR1 (eV 1)) (tgN 13)
    (sAsg 12 (eOp addD (eV 12) (eComp (iR1 (eV 1)) 14 (eOp neD (eOp inD (eTup (aCons (eV 13) (aCons (eV 14) aNil))) (eV 3)) (eOp inD (eTup (aCons (eV 13) (aCons (eV 14) aNil))) (eV 11))) (eTup (aCons (eV 13) (aCons (eV 14) aNil)))))))
    (sRet (eOp isND (eCall fn_board_reply (aCons (eOp ixD (eV 2) (eC (.int 0))) (aCons (eOp ixD (eV 2) (eC (.int 1))) (aCons (eV 12) aNil)))) (eC .non))))))
noncomputable def b_law_p4 (x y : List Int) (a : Addr) : SFn :=
  (sSeqP 9 (sIf (eOp neD (eV 8) (eV 3))
    (sRet (eC (.bl false)))
    sNil)
    (sSeqP 9 (sIf (eOp eqD (eCall fn__law_over (aCons (eV 5) (aCons (eV 3) aNil))) (eC (.int 0)))
    (sRet (eOp isND (eV 9) (eC .non)))
    sNil)
    (sSeqP 9 (sAsg 10 (eCall fn__law_first (aCons (eV 2) (aCons (eV 5) (aCons (eV 3) aNil)))))
    (sIfQ 9 (twoT x y) (eOr (eOp isND (eV 10) (eC .non)) (eUn notD (eCall fn__law_is_turn (aCons (eV 9) (aCons (eV 10) aNil)))))
    (fun _ => (sRet (eC (.bl false))))
    (sApp0 x y 16 (fun x y => (sIfQ 9 (twoT x y) (eOp neD (eOp ixD (eV 9) (eC (.int 1))) (eOp ixD (eV 10) (eC (.int 1))))
    (fun _ => (sRet (eC (.bl false))))
    (fun _ => b_law_tail)))))))) a
noncomputable def b_law_5 : SFn :=
  (sSeq (sAsg 4 (eCall fn__law_numbers (aCons (eOp ixD (eV 2) (eC (.int 1))) (aCons (eV 1) aNil))))
    (sSeq (sOwn 5 (eLst aNil))
    (sSeq (sFor (iL (eCall fn__law_numbers (aCons (eOp ixD (eV 2) (eC (.int 0))) (aCons (eV 1) aNil)))) (tgN 6)
    (sApp 5 (eComp (iL (eV 4)) 7 eYes (eCall (fn__law_times 6) (aCons (eV 6) (aCons (eV 7) (aCons (eC (.int 3)) aNil)))))))
    (sSeq (sAsg 8 (eUn listD (eV 3)))
    (sFrz 5 (sFreshB 9 (eCallP fn_board_reply (aCons (eOp ixD (eV 2) (eC (.int 0))) (aCons (eOp ixD (eV 2) (eC (.int 1))) (aCons (eV 8) aNil)))) b_law_p2 b_law_p4))))))
noncomputable def b_law : SFn :=
  (sSeq (sAsg 1 (eC (.int 3)))
    (sSeq (sAsg 2 (eLst (aCons (eCall fn__law_rule (aCons (eCall fn__law_cell_at (aCons (eV 0) (aCons (eC (.int 0)) aNil))) (aCons (eC (.int 3)) aNil))) (aCons (eCall fn__law_rule (aCons (eCall fn__law_cell_at (aCons (eV 0) (aCons (eC (.int 1)) aNil))) (aCons (eC (.int 3)) aNil))) aNil))))
    (sSeq (sAsg 3 (eCall fn__law_board (aCons (eCall fn__law_cell_at (aCons (eV 0) (aCons (eC (.int 2)) aNil))) aNil)))
    (sSeq (sIf (eOp eqD (eOp modD (eCall fn__law_cell_at (aCons (eV 0) (aCons (eC (.int 3)) aNil))) (eC (.int 4))) (eC (.int 1)))
    (sSeq (sAsg 1 (eC (.int 16)))
    (sSeq (sAsg 2 (eLst (aCons (eCall fn__law_rule (aCons (eCall fn__law_cell_at (aCons (eV 0) (aCons (eC (.int 0)) aNil))) (aCons (eC (.int 2)) aNil))) (aCons (eCall fn__law_rule (aCons (eCall fn__law_cell_at (aCons (eV 0) (aCons (eC (.int 1)) aNil))) (aCons (eC (.int 2)) aNil))) aNil))))
    (sAsg 3 (eCall fn__law_far (aCons (eV 0) aNil)))))
    sNil)
    (sDrop 0 b_law_5)))))
noncomputable def fn_law : List D → R D := runF 15 b_law
section
variable {P : Program} {w : World} {K : PySem.W.Frag} {mg : Str → Option Value} {base : Heap}
theorem ok_asked_number {k : Nat} {f : Addr} {fd : FuncData} (F : Fun K "asked_number" "asked_number" s_asked_number f fd) (g_MANY : ∃ t, mg "MANY" = some (.int 65536 t)) (x_NoNumber : Xc K mg "NoNumber") :
    FnOk P w K mg base (L2N.CX P w) (k + 1) f fd ["number"] (spOf K mg 1 (runF 1 b_asked_number)) :=
  fn_ok F sc_asked_number fun cdv A outer s H E O =>
    (ss_one (ss_if (st_w (sw_or (st_cmp os_lt (sb (se_var 0 (pv 0))) (sb se_int)) (sw_or1 (st_cmp os_ge (sb (se_var 0 (pv 0))) (sb (se_globI rfl g_MANY))))))
    (ss_one (ss_raise O.calm O.tk x_NoNumber))
    ss_nil))
theorem ok_product {k : Nat} {f : Addr} {fd : FuncData} {rec : List D → R D} (F : Fun K "product" "product" s_product f fd) (z_rec : Fz P w K mg base k "product" 3 rec) (g_LOWER : LowerOk K mg) :
    FnOk P w K mg base (L2N.CX P w) (k + 1) f fd ["one", "two", "base"] (spOf K mg 3 (runF 7 (b_product rec))) :=
  fn_ok F sc_product fun cdv A outer s H E O =>
    (ss_cons (ss_if (st_w (sw_or (st_cmp os_lt (sb (se_var 0 (pv 0))) (sb se_int)) (sw_or1 (st_cmp os_lt (sb (se_var 1 (pv 1))) (sb se_int)))))
    (ss_one (ss_ret (se_bin os_mul (sb (se_var 0 (pv 0))) (sb (se_var 1 (pv 1))))))
    ss_nil)
    (ss_cons (ss_asg 3 O.nd (se_lower g_LOWER (sb (se_var 2 (pv 2)))))
    (ss_cons (ss_if (st_w (sw_and (st_cmp os_lt (sb (se_var 0 (pv 0))) (sb (se_var 2 (pv 2)))) (sw_and1 (st_cmp os_lt (sb (se_var 1 (pv 1))) (sb (se_var 2 (pv 2)))))))
    (ss_one (ss_ret (se_call z_rec O.room O.ps (sa_cons (se_var 0 (pv 0)) (sa_cons (se_var 1 (pv 1)) (sa_cons (se_var 3 (pv 3)) sa_nil))))))
    ss_nil)
    (ss_cons (ss_asg 4 O.nd (se_call z_rec O.room O.ps (sa_cons (se_bin os_fdiv (sb (se_var 0 (pv 0))) (sb (se_var 2 (pv 2)))) (sa_cons (se_bin os_fdiv (sb (se_var 1 (pv 1))) (sb (se_var 2 (pv 2)))) (sa_cons (se_var 3 (pv 3)) sa_nil)))))
    (ss_cons (ss_asg 5 O.nd (se_call z_rec O.room O.ps (sa_cons (se_bin os_mod (sb (se_var 0 (pv 0))) (sb (se_var 2 (pv 2)))) (sa_cons (se_bin os_mod (sb (se_var 1 (pv 1))) (sb (se_var 2 (pv 2)))) (sa_cons (se_var 3 (pv 3)) sa_nil)))))
    (ss_cons (ss_asg 6 O.nd (se_call z_rec O.room O.ps (sa_cons (se_bin os_xor (sb (se_bin os_fdiv (sb (se_var 0 (pv 0))) (sb (se_var 2 (pv 2))))) (sb (se_bin os_mod (sb (se_var 0 (pv 0))) (sb (se_var 2 (pv 2)))))) (sa_cons (se_bin os_xor (sb (se_bin os_fdiv (sb (se_var 1 (pv 1))) (sb (se_var 2 (pv 2))))) (sb (se_bin os_mod (sb (se_var 1 (pv 1))) (sb (se_var 2 (pv 2)))))) (sa_cons (se_var 3 (pv 3)) sa_nil)))))
    (ss_one (ss_ret (se_bin os_add (sb (se_bin os_mul (sb (se_bin os_xor (sb (se_var 6 (pv 6))) (sb (se_var 5 (pv 5))))) (sb (se_var 2 (pv 2))))) (sb (se_bin os_xor (sb (se_var 5 (pv 5))) (sb (se_call z_rec O.room O.ps (sa_cons (se_var 4 (pv 4)) (sa_cons (se_bin os_fdiv (sb (se_var 2 (pv 2))) (sb se_int)) (sa_cons (se_var 3 (pv 3)) sa_nil))))))))))))))))
theorem ok_times {k : Nat} {f : Addr} {fd : FuncData} (F : Fun K "times" "times" s_times f fd) (z_asked_number : Fz P w K mg base k "asked_number" 1 fn_asked_number) (z_product : Fz P w K mg base k "product" 3 (fn_product 6)) :
    FnOk P w K mg base (L2N.CX P w) (k + 1) f fd ["one", "two"] (spOf K mg 2 (runF 2 b_times)) :=
  fn_ok F sc_times fun cdv A outer s H E O =>
    (ss_cons (ss_expr (se_call z_asked_number O.room O.ps (sa_cons (se_var 0 (pv 0)) sa_nil)))
    (ss_cons (ss_expr (se_call z_asked_number O.room O.ps (sa_cons (se_var 1 (pv 1)) sa_nil)))
    (ss_one (ss_ret (se_call z_product O.room O.ps (sa_cons (se_var 0 (pv 0)) (sa_cons (se_var 1 (pv 1)) (sa_cons se_int sa_nil))))))))
theorem ok_asked_rule {k : Nat} {f : Addr} {fd : FuncData} (F : Fun K "asked_rule" "asked_rule" s_asked_rule f fd) (g_PLACES : ∃ t, mg "PLACES" = some (.int 40 t)) (x_NoRule : Xc K mg "NoRule") :
    FnOk P w K mg base (L2N.CX P w) (k + 1) f fd ["rule"] (spOf K mg 1 (runF 2 b_asked_rule)) :=
  fn_ok F sc_asked_rule fun cdv A outer s H E O =>
    (ss_cons (ss_asg 1 O.nd se_int)
    (ss_cons (ss_if (st_w (sw_or (st_cmp (os_eq O.u64) (sb (se_ix (sb (se_var 0 (pv 0))) (sb se_int))) (sb se_str)) (sw_or1 (st_cmp (os_eq O.u64) (sb (se_ix (sb (se_var 0 (pv 0))) (sb se_int))) (sb se_str)))))
    (ss_one (ss_asg 1 O.nd se_int))
    ss_nil)
    (ss_cons (ss_if (st_cmp (os_eq O.u64) (sb (se_ix (sb (se_var 0 (pv 0))) (sb se_int))) (sb se_str))
    (ss_one (ss_asg 1 O.nd (se_globI rfl g_PLACES)))
    ss_nil)
    (ss_one (ss_if (st_w (sw_or (st_cmp os_lt (sb (se_ix (sb (se_var 0 (pv 0))) (sb se_int))) (sb se_int)) (sw_or1 (st_cmp os_gt (sb (se_ix (sb (se_var 0 (pv 0))) (sb se_int))) (sb (se_var 1 (pv 1)))))))
    (ss_one (ss_raise O.calm O.tk x_NoRule))
    ss_nil)))))
theorem ok_picks {k : Nat} {f : Addr} {fd : FuncData} (F : Fun K "picks" "picks" s_picks f fd) (m_range : mg "range" = none) :
    FnOk P w K mg base (L2N.CX P w) (k + 1) f fd ["count", "below"] (spOf K mg 2 (runF 5 b_picks)) :=
  fn_ok F sc_picks fun cdv A outer s H E O =>
    (ss_cons (ss_if (st_cmp (os_eq O.u64) (sb (se_var 0 (pv 0))) (sb se_int))
    (ss_one (ss_ret (se_sf (sf_lst (sa_cons (se_sf (sf_lst sa_nil)) sa_nil)))))
    ss_nil)
    (ss_cons (ss_if (st_cmp (os_eq O.u64) (sb (se_var 0 (pv 0))) (sb se_int))
    (ss_one (ss_ret (se_sf (sf_lc O.calm O.nd (si_r1 (se_var 1 (pv 1)) m_range) (blkOk_by (N := N_picks) (sc := defScope s_picks) (own := [("one", 2)]) (by decide +kernel)) (fun _ _ _ _ _ => pg_name (i := 2) O.nd rfl (Or.inl rfl)) (fun _ _ _ _ _ => sts_nil) (fun _ _ _ _ _ => (se_sf (sf_lst (sa_cons (se_var 2 (pv 2)) sa_nil))))))))
    ss_nil)
    (ss_cons (ss_own 3 O.nd (sf_lst sa_nil))
    (ss_cons (ss_for O.po O.calm (si_r1 (se_var 1 (pv 1)) m_range) (sg_name 2 O.nd)
    (ss_one (ss_for O.po O.calm (si_r2 (se_bin os_add (sb (se_var 2 (pv 2))) (sb se_int)) (se_var 1 (pv 1)) m_range) (sg_name 4 O.nd)
    (ss_one (ss_app 3 (pv 3) (se_sf (sf_lst (sa_cons (se_var 2 (pv 2)) (sa_cons (se_var 4 (pv 4)) sa_nil)))))))))
    (ss_one (ss_retO 3 (pv 3)))))))
theorem ok_shapes {k : Nat} {f : Addr} {fd : FuncData} (F : Fun K "shapes" "shapes" s_shapes f fd) (z_picks : Fz P w K mg base k "picks" 2 fn_picks) (m_range : mg "range" = none) (m_max : mg "max" = none) (m_list : mg "list" = none) :
    FnOk P w K mg base (L2N.CX P w) (k + 1) f fd ["rule", "last"] (spOf K mg 2 (runF 7 b_shapes)) :=
  fn_ok F sc_shapes fun cdv A outer s H E O =>
    (ss_cons (ss_own 2 O.nd (sf_lst sa_nil))
    (ss_cons (ss_if (st_cmp (os_eq O.u64) (sb (se_ix (sb (se_var 0 (pv 0))) (sb se_int))) (sb se_str))
    (ss_cons (ss_for O.po O.calm (si_r3 (se_var 1 (pv 1)) (se_m2 (call_max2 O.calm) max2_ok (sb (se_neg se_int)) (sb (se_bin os_sub (sb (se_var 1 (pv 1))) (sb (se_ix (sb (se_var 0 (pv 0))) (sb se_int))))) m_max) (se_neg se_int) m_range) (sg_name 3 O.nd)
    (ss_one (ss_app 2 (pv 2) (se_sf (sf_listR O.calm (se_var 3 (pv 3)) (se_bin os_add (sb (se_var 1 (pv 1))) (sb se_int)) m_list m_range)))))
    (ss_one (ss_retO 2 (pv 2))))
    ss_nil)
    (ss_cons (ss_asg 4 O.nd se_int)
    (ss_cons (ss_if (st_cmp (os_eq O.u64) (sb (se_ix (sb (se_var 0 (pv 0))) (sb se_int))) (sb se_str))
    (ss_one (ss_asg 4 O.nd (se_ix (sb (se_var 0 (pv 0))) (sb se_int))))
    ss_nil)
    (ss_cons (ss_for O.po O.calm (si_r2 (se_var 4 (pv 4)) (se_bin os_add (sb (se_ix (sb (se_var 0 (pv 0))) (sb se_int))) (sb se_int)) m_range) (sg_name 5 O.nd)
    (ss_one (ss_for O.po O.calm (si_list (se_call z_picks O.room O.ps (sa_cons (se_bin os_sub (sb (se_var 5 (pv 5))) (sb se_int)) (sa_cons (se_var 1 (pv 1)) sa_nil)))) (sg_name 6 O.nd)
    (ss_one (ss_app 2 (pv 2) (se_bin os_add (sb (se_var 6 (pv 6))) (sb (se_sf (sf_lst (sa_cons (se_var 1 (pv 1)) sa_nil))))))))))
    (ss_one (ss_retO 2 (pv 2))))))))
theorem ok_numbers {k : Nat} {f : Addr} {fd : FuncData} (F : Fun K "numbers" "numbers" s_numbers f fd) (z_shapes : Fz P w K mg base k "shapes" 2 fn_shapes) (m_range : mg "range" = none) :
    FnOk P w K mg base (L2N.CX P w) (k + 1) f fd ["rule", "most"] (spOf K mg 2 (runF 8 b_numbers)) :=
  fn_ok F sc_numbers fun cdv A outer s H E O =>
    (ss_cons (ss_own 2 O.nd (sf_lst sa_nil))
    (ss_cons (ss_for O.po O.calm (si_r1 (se_bin os_add (sb (se_var 1 (pv 1))) (sb se_int)) m_range) (sg_name 3 O.nd)
    (ss_cons (ss_own 4 O.nd sf_dict)
    (ss_cons (ss_for O.po O.calm (si_list (se_call z_shapes O.room O.ps (sa_cons (se_var 0 (pv 0)) (sa_cons (se_var 3 (pv 3)) sa_nil)))) (sg_name 5 O.nd)
    (ss_cons (ss_asg 6 O.nd se_int)
    (ss_cons (ss_for O.po O.calm (si_list (se_sf (sf_sl (sb (se_var 5 (pv 5))) so_none (so_some (se_neg se_int))))) (sg_name 7 O.nd)
    (ss_one (ss_asg 6 O.nd (se_bin os_xor (sb (se_var 6 (pv 6))) (sb (se_ix (sb_own 2 (pv 2)) (sb (se_var 7 (pv 7)))))))))
    (ss_one (ss_putD 4 O.u1 (pv 4) (se_var 6 (pv 6)))))))
    (ss_cons (ss_asg 6 O.nd se_int)
    (ss_cons (ss_while 100000 O.po (st_cmp (os_in O.u65) (sb (se_var 6 (pv 6))) (sb_own 4 (pv 4)))
    (ss_one (ss_asg 6 O.nd (se_bin os_add (sb (se_var 6 (pv 6))) (sb se_int)))))
    (ss_one (ss_app 2 (pv 2) (se_var 6 (pv 6)))))))))
    (ss_one (ss_retO 2 (pv 2)))))
theorem ok_over {k : Nat} {f : Addr} {fd : FuncData} (F : Fun K "over" "over" s_over f fd)  :
    FnOk P w K mg base (L2N.CX P w) (k + 1) f fd ["found", "places"] (spOf K mg 2 (runF 4 b_over)) :=
  fn_ok F sc_over fun cdv A outer s H E O =>
    (ss_cons (ss_asg 2 O.nd se_int)
    (ss_cons (ss_for O.po O.calm (si_list (se_var 1 (pv 1))) (sg_name 3 O.nd)
    (ss_one (ss_asg 2 O.nd (se_bin os_xor (sb (se_var 2 (pv 2))) (sb (se_ix (sb (se_var 0 (pv 0))) (sb (se_var 3 (pv 3)))))))))
    (ss_one (ss_ret (se_var 2 (pv 2))))))
theorem ok_asked_board {k : Nat} {f : Addr} {fd : FuncData} (F : Fun K "asked_board" "asked_board" s_asked_board f fd) (g_SIDE : ∃ t, mg "SIDE" = some (.int 16 t)) (x_NoBoard : Xc K mg "NoBoard") :
    FnOk P w K mg base (L2N.CX P w) (k + 1) f fd ["heads"] (spOf K mg 1 (runF 3 b_asked_board)) :=
  fn_ok F sc_asked_board fun cdv A outer s H E O =>
    (ss_cons (ss_asg 1 O.nd (se_tup (sa_cons (se_neg se_int) (sa_cons se_int sa_nil))))
    (ss_one (ss_for O.po O.calm (si_list (se_var 0 (pv 0))) (sg_name 2 O.nd)
    (ss_cons (ss_if (st_w (sw_or (st_cmp os_lt (sb (se_ix (sb (se_var 2 (pv 2))) (sb se_int))) (sb se_int)) (sw_or (st_cmp os_ge (sb (se_ix (sb (se_var 2 (pv 2))) (sb se_int))) (sb (se_globI rfl g_SIDE))) (sw_or (st_cmp os_lt (sb (se_ix (sb (se_var 2 (pv 2))) (sb se_int))) (sb se_int)) (sw_or (st_cmp os_ge (sb (se_ix (sb (se_var 2 (pv 2))) (sb se_int))) (sb (se_globI rfl g_SIDE))) (sw_or1 (st_cmp (os_le O.u) (sb (se_var 2 (pv 2))) (sb (se_var 1 (pv 1))))))))))
    (ss_one (ss_raise O.calm O.tk x_NoBoard))
    ss_nil)
    (ss_one (ss_asg 1 O.nd (se_var 2 (pv 2))))))))
theorem ok_board_value {k : Nat} {f : Addr} {fd : FuncData} (F : Fun K "board_value" "board_value" s_board_value f fd) (z_asked_rule : Fz P w K mg base k "asked_rule" 1 fn_asked_rule) (z_asked_board : Fz P w K mg base k "asked_board" 1 fn_asked_board) (z_numbers : Fz P w K mg base k "numbers" 2 fn_numbers) (z_times : Fz P w K mg base k "times" 2 fn_times) (m_max : mg "max" = none) :
    FnOk P w K mg base (L2N.CX P w) (k + 1) f fd ["rule_x", "rule_y", "heads"] (spOf K mg 3 (runF 7 b_board_value)) :=
  fn_ok F sc_board_value fun cdv A outer s H E O =>
    (ss_cons (ss_expr (se_call z_asked_rule O.room O.ps (sa_cons (se_var 0 (pv 0)) sa_nil)))
    (ss_cons (ss_expr (se_call z_asked_rule O.room O.ps (sa_cons (se_var 1 (pv 1)) sa_nil)))
    (ss_cons (ss_expr (se_call z_asked_board O.room O.ps (sa_cons (se_var 2 (pv 2)) sa_nil)))
    (ss_cons (ss_asg 3 O.nd (se_call z_numbers O.room O.ps (sa_cons (se_var 0 (pv 0)) (sa_cons (se_b1 (cs_max O.calm) (sb (se_bin os_add (sb (se_sf (sf_lst (sa_cons se_int sa_nil)))) (sb (se_sf (sf_lc O.calm O.nd (si_list (se_var 2 (pv 2))) (blkOk_by (N := N_board_value) (sc := defScope s_board_value) (own := [("pair", 4)]) (by decide +kernel)) (fun _ _ _ _ _ => pg_name (i := 4) O.nd rfl (Or.inl rfl)) (fun _ _ _ _ _ => sts_nil) (fun _ _ _ _ _ => (se_ix (sb (se_var 4 (pv 4))) (sb se_int)))))))) m_max) sa_nil))))
    (ss_cons (ss_asg 5 O.nd (se_call z_numbers O.room O.ps (sa_cons (se_var 1 (pv 1)) (sa_cons (se_b1 (cs_max O.calm) (sb (se_bin os_add (sb (se_sf (sf_lst (sa_cons se_int sa_nil)))) (sb (se_sf (sf_lc O.calm O.nd (si_list (se_var 2 (pv 2))) (blkOk_by (N := N_board_value) (sc := defScope s_board_value) (own := [("pair", 4)]) (by decide +kernel)) (fun _ _ _ _ _ => pg_name (i := 4) O.nd rfl (Or.inl rfl)) (fun _ _ _ _ _ => sts_nil) (fun _ _ _ _ _ => (se_ix (sb (se_var 4 (pv 4))) (sb se_int)))))))) m_max) sa_nil))))
    (ss_cons (ss_asg 6 O.nd se_int)
    (ss_cons (ss_for O.po O.calm (si_list (se_var 2 (pv 2))) (sg_name 4 O.nd)
    (ss_one (ss_asg 6 O.nd (se_bin os_xor (sb (se_var 6 (pv 6))) (sb (se_call z_times O.room O.ps (sa_cons (se_ix (sb (se_var 3 (pv 3))) (sb (se_ix (sb (se_var 4 (pv 4))) (sb se_int)))) (sa_cons (se_ix (sb (se_var 5 (pv 5))) (sb (se_ix (sb (se_var 4 (pv 4))) (sb se_int)))) sa_nil))))))))
    (ss_one (ss_ret (se_var 6 (pv 6)))))))))))
theorem ok_board_reply {k : Nat} {f : Addr} {fd : FuncData} (F : Fun K "board_reply" "board_reply" s_board_reply f fd) (z_board_value : Fz P w K mg base k "board_value" 3 fn_board_value) (z_numbers : Fz P w K mg base k "numbers" 2 fn_numbers) (z_shapes : Fz P w K mg base k "shapes" 2 fn_shapes) (z_times : Fz P w K mg base k "times" 2 fn_times) (z_over : Fz P w K mg base k "over" 2 fn_over) (m_max : mg "max" = none) :
    FnOk P w K mg base (L2N.CX P w) (k + 1) f fd ["rule_x", "rule_y", "heads"] (spOf K mg 3 (runF 9 b_board_reply)) :=
  fn_ok F sc_board_reply fun cdv A outer s H E O =>
    (ss_cons (ss_asg 3 O.nd (se_call z_board_value O.room O.ps (sa_cons (se_var 0 (pv 0)) (sa_cons (se_var 1 (pv 1)) (sa_cons (se_var 2 (pv 2)) sa_nil)))))
    (ss_cons (ss_if (st_cmp (os_eq O.u64) (sb (se_var 3 (pv 3))) (sb se_int))
    (ss_one (ss_ret se_non))
    ss_nil)
    (ss_cons (ss_asg 4 O.nd (se_call z_numbers O.room O.ps (sa_cons (se_var 0 (pv 0)) (sa_cons (se_b1 (cs_max O.calm) (sb (se_sf (sf_lc O.calm O.nd (si_list (se_var 2 (pv 2))) (blkOk_by (N := N_board_reply) (sc := defScope s_board_reply) (own := [("pair", 5)]) (by decide +kernel)) (fun _ _ _ _ _ => pg_name (i := 5) O.nd rfl (Or.inl rfl)) (fun _ _ _ _ _ => sts_nil) (fun _ _ _ _ _ => (se_ix (sb (se_var 5 (pv 5))) (sb se_int)))))) m_max) sa_nil))))
    (ss_cons (ss_asg 6 O.nd (se_call z_numbers O.room O.ps (sa_cons (se_var 1 (pv 1)) (sa_cons (se_b1 (cs_max O.calm) (sb (se_sf (sf_lc O.calm O.nd (si_list (se_var 2 (pv 2))) (blkOk_by (N := N_board_reply) (sc := defScope s_board_reply) (own := [("pair", 5)]) (by decide +kernel)) (fun _ _ _ _ _ => pg_name (i := 5) O.nd rfl (Or.inl rfl)) (fun _ _ _ _ _ => sts_nil) (fun _ _ _ _ _ => (se_ix (sb (se_var 5 (pv 5))) (sb se_int)))))) m_max) sa_nil))))
    (ss_cons (ss_for O.po O.calm (si_list (se_var 2 (pv 2))) (sg_name 5 O.nd)
    (ss_one (ss_for O.po O.calm (si_list (se_call z_shapes O.room O.ps (sa_cons (se_var 0 (pv 0)) (sa_cons (se_ix (sb (se_var 5 (pv 5))) (sb se_int)) sa_nil)))) (sg_name 7 O.nd)
    (ss_one (ss_forP O.po O.calm (spv_call z_shapes O.room O.ps (sab_cons (sb (se_var 1 (pv 1))) (sab_cons (sb (se_ix (sb (se_var 5 (pv 5))) (sb se_int))) sab_nil))) (pg_name (i := 8) O.nd rfl (Or.inl rfl)) fun d => (k_if (st_cmp (os_eq O.u64) (sb (se_call z_times O.room O.ps (sa_cons (se_call z_over O.room O.ps (sa_cons (se_var 4 (pv 4)) (sa_cons (se_var 7 (pv 7)) sa_nil))) (sa_cons (se_call z_over O.room O.ps (sa_cons (se_var 6 (pv 6)) (sa_cons (se_var 8 (pv 8)) sa_nil))) sa_nil)))) (sb (se_var 3 (pv 3)))) (p_retTwo (pv 7) (pv 8))))))))
    (ss_one (ss_ret se_non)))))))
theorem ok__law_cell_at {k : Nat} {f : Addr} {fd : FuncData} (F : Fun K "_law_cell_at" "_law_cell_at" s__law_cell_at f fd) (m_len : mg "len" = none) :
    FnOk P w K mg base (L2N.CX P w) (k + 1) f fd ["script", "k"] (spOf K mg 2 (runF 2 b__law_cell_at)) :=
  fn_ok F sc__law_cell_at fun cdv A outer s H E O =>
    (ss_cons (ss_if (st_cmp os_lt (sb (se_var 1 (pv 1))) (sb (se_b1 cs_len (sb (se_var 0 (pv 0))) m_len)))
    (ss_one (ss_ret (se_ix (sb (se_var 0 (pv 0))) (sb (se_var 1 (pv 1))))))
    ss_nil)
    (ss_one (ss_ret se_int)))
theorem ok__law_rule {k : Nat} {f : Addr} {fd : FuncData} (F : Fun K "_law_rule" "_law_rule" s__law_rule f fd)  :
    FnOk P w K mg base (L2N.CX P w) (k + 1) f fd ["cell", "most"] (spOf K mg 2 (runF 2 b__law_rule)) :=
  fn_ok F sc__law_rule fun cdv A outer s H E O =>
    (ss_cons (ss_if (st_cmp (os_eq O.u64) (sb (se_bin os_mod (sb (se_var 0 (pv 0))) (sb se_int))) (sb se_int))
    (ss_one (ss_ret (se_tup (sa_cons se_str (sa_cons (se_bin os_add (sb se_int) (sb (se_bin os_mod (sb (se_bin os_fdiv (sb (se_var 0 (pv 0))) (sb se_int))) (sb se_int)))) sa_nil)))))
    ss_nil)
    (ss_one (ss_ret (se_tup (sa_cons (se_ix (sb (se_sf (sf_lst (sa_cons se_str (sa_cons se_str sa_nil))))) (sb (se_bin os_mod (sb (se_var 0 (pv 0))) (sb se_int)))) (sa_cons (se_bin os_add (sb se_int) (sb (se_bin os_mod (sb (se_bin os_fdiv (sb (se_var 0 (pv 0))) (sb se_int))) (sb (se_var 1 (pv 1)))))) sa_nil))))))
theorem ok__law_far {k : Nat} {f : Addr} {fd : FuncData} (F : Fun K "_law_far" "_law_far" s__law_far f fd) (z__law_cell_at : Fz P w K mg base k "_law_cell_at" 2 fn__law_cell_at) (m_range : mg "range" = none) (m_sorted : mg "sorted" = none) :
    FnOk P w K mg base (L2N.CX P w) (k + 1) f fd ["script"] (spOf K mg 1 (runF 4 b__law_far)) :=
  fn_ok F sc__law_far fun cdv A outer s H E O =>
    (ss_cons (ss_own 1 O.nd sf_dictT)
    (ss_cons (ss_for O.po O.calm (si_r1 (se_bin os_add (sb se_int) (sb (se_bin os_mod (sb (se_call z__law_cell_at O.room O.ps (sa_cons (se_var 0 (pv 0)) (sa_cons se_int sa_nil)))) (sb se_int)))) m_range) (sg_name 2 O.nd)
    (ss_cons (ss_asg 3 O.nd (se_call z__law_cell_at O.room O.ps (sa_cons (se_var 0 (pv 0)) (sa_cons (se_bin os_add (sb se_int) (sb (se_var 2 (pv 2)))) sa_nil))))
    (ss_one (ss_putD 1 O.u1 (pv 1) (se_tup (sa_cons (se_bin os_mod (sb (se_var 3 (pv 3))) (sb se_int)) (sa_cons (se_bin os_mod (sb (se_bin os_fdiv (sb (se_var 3 (pv 3))) (sb se_int))) (sb se_int)) sa_nil)))))))
    (ss_one (ss_ret (se_sf (sf_b1 (cf_sorted O.calm) (sb_own 1 (pv 1)) m_sorted))))))
theorem ok__law_board {k : Nat} {f : Addr} {fd : FuncData} (F : Fun K "_law_board" "_law_board" s__law_board f fd) (m_range : mg "range" = none) :
    FnOk P w K mg base (L2N.CX P w) (k + 1) f fd ["cell"] (spOf K mg 1 (runF 3 b__law_board)) :=
  fn_ok F sc__law_board fun cdv A outer s H E O =>
    (ss_cons (ss_own 1 O.nd (sf_lst sa_nil))
    (ss_cons (ss_for O.po O.calm (si_r1 se_int m_range) (sg_name 2 O.nd)
    (ss_cons (ss_if (st_cmp (os_eq O.u64) (sb (se_bin os_mod (sb (se_var 0 (pv 0))) (sb se_int))) (sb se_int))
    (ss_one (ss_app 1 (pv 1) (se_tup (sa_cons (se_bin os_fdiv (sb (se_var 2 (pv 2))) (sb se_int)) (sa_cons (se_bin os_mod (sb (se_var 2 (pv 2))) (sb se_int)) sa_nil)))))
    ss_nil)
    (ss_one (ss_asg 0 O.nd (se_bin os_fdiv (sb (se_var 0 (pv 0))) (sb se_int))))))
    (ss_one (ss_retO 1 (pv 1)))))
theorem ok__law_shapes {k : Nat} {f : Addr} {fd : FuncData} (F : Fun K "_law_shapes" "_law_shapes" s__law_shapes f fd) (m_range : mg "range" = none) :
    FnOk P w K mg base (L2N.CX P w) (k + 1) f fd ["rule", "last"] (spOf K mg 2 (runF 7 b__law_shapes)) :=
  fn_ok F sc__law_shapes fun cdv A outer s H E O =>
    (ss_cons (ss_own 2 O.nd (sf_lst sa_nil))
    (ss_cons (ss_for O.po O.calm (si_r2 se_int (se_bin os_add (sb (se_ix (sb (se_var 0 (pv 0))) (sb se_int))) (sb se_int)) m_range) (sg_name 3 O.nd)
    (ss_one (ss_if (st_cmp (os_eq O.u64) (sb (se_ix (sb (se_var 0 (pv 0))) (sb se_int))) (sb se_str))
    (ss_one (ss_if (st_cmp (os_le O.u) (sb (se_var 3 (pv 3))) (sb (se_bin os_add (sb (se_var 1 (pv 1))) (sb se_int))))
    (ss_one (ss_app 2 (pv 2) (se_sf (sf_lc O.calm O.nd (si_r1 (se_var 3 (pv 3)) m_range) (blkOk_by (N := N__law_shapes) (sc := defScope s__law_shapes) (own := [("k", 4)]) (by decide +kernel)) (fun _ _ _ _ _ => pg_name (i := 4) O.nd rfl (Or.inl rfl)) (fun _ _ _ _ _ => sts_nil) (fun _ _ _ _ _ => (se_bin os_add (sb (se_bin os_sub (sb (se_bin os_add (sb (se_var 1 (pv 1))) (sb se_int))) (sb (se_var 3 (pv 3))))) (sb (se_var 4 (pv 4)))))))))
    ss_nil))
    (ss_one (ss_if (st_w (sw_or (st_cmp (os_eq O.u64) (sb (se_ix (sb (se_var 0 (pv 0))) (sb se_int))) (sb se_str)) (sw_or1 (st_cmp (os_eq O.u64) (sb (se_var 3 (pv 3))) (sb (se_ix (sb (se_var 0 (pv 0))) (sb se_int)))))))
    (ss_cons (ss_if (st_cmp (os_eq O.u64) (sb (se_var 3 (pv 3))) (sb se_int))
    (ss_one (ss_app 2 (pv 2) (se_sf (sf_lst (sa_cons (se_var 1 (pv 1)) sa_nil)))))
    ss_nil)
    (ss_cons (ss_if (st_cmp (os_eq O.u64) (sb (se_var 3 (pv 3))) (sb se_int))
    (ss_one (ss_own 2 O.nd (sf_cat (sb_own 2 (pv 2)) (sb (se_sf (sf_lc O.calm O.nd (si_r1 (se_var 1 (pv 1)) m_range) (blkOk_by (N := N__law_shapes) (sc := defScope s__law_shapes) (own := [("one", 5)]) (by decide +kernel)) (fun _ _ _ _ _ => pg_name (i := 5) O.nd rfl (Or.inl rfl)) (fun _ _ _ _ _ => sts_nil) (fun _ _ _ _ _ => (se_sf (sf_lst (sa_cons (se_var 5 (pv 5)) (sa_cons (se_var 1 (pv 1)) sa_nil)))))))))))
    ss_nil)
    (ss_one (ss_if (st_cmp (os_eq O.u64) (sb (se_var 3 (pv 3))) (sb se_int))
    (ss_one (ss_for O.po O.calm (si_r1 (se_var 1 (pv 1)) m_range) (sg_name 5 O.nd)
    (ss_one (ss_own 2 O.nd (sf_cat (sb_own 2 (pv 2)) (sb (se_sf (sf_lc O.calm O.nd (si_r2 (se_bin os_add (sb (se_var 5 (pv 5))) (sb se_int)) (se_var 1 (pv 1)) m_range) (blkOk_by (N := N__law_shapes) (sc := defScope s__law_shapes) (own := [("two", 6)]) (by decide +kernel)) (fun _ _ _ _ _ => pg_name (i := 6) O.nd rfl (Or.inl rfl)) (fun _ _ _ _ _ => sts_nil) (fun _ _ _ _ _ => (se_sf (sf_lst (sa_cons (se_var 5 (pv 5)) (sa_cons (se_var 6 (pv 6)) (sa_cons (se_var 1 (pv 1)) sa_nil))))))))))))))
    ss_nil))))
    ss_nil)))))
    (ss_one (ss_retO 2 (pv 2)))))
theorem ok__law_numbers {k : Nat} {f : Addr} {fd : FuncData} (F : Fun K "_law_numbers" "_law_numbers" s__law_numbers f fd) (z__law_shapes : Fz P w K mg base k "_law_shapes" 2 fn__law_shapes) (m_range : mg "range" = none) :
    FnOk P w K mg base (L2N.CX P w) (k + 1) f fd ["rule", "many"] (spOf K mg 2 (runF 9 b__law_numbers)) :=
  fn_ok F sc__law_numbers fun cdv A outer s H E O =>
    (ss_cons (ss_own 2 O.nd (sf_lst sa_nil))
    (ss_cons (ss_for O.po O.calm (si_r1 (se_var 1 (pv 1)) m_range) (sg_name 3 O.nd)
    (ss_cons (ss_own 4 O.nd sf_dict)
    (ss_cons (ss_for O.po O.calm (si_list (se_call z__law_shapes O.room O.ps (sa_cons (se_var 0 (pv 0)) (sa_cons (se_var 3 (pv 3)) sa_nil)))) (sg_name 5 O.nd)
    (ss_cons (ss_asg 6 O.nd se_int)
    (ss_cons (ss_for O.po O.calm (si_list (se_sf (sf_sl (sb (se_var 5 (pv 5))) so_none (so_some (se_neg se_int))))) (sg_name 7 O.nd)
    (ss_one (ss_asg 6 O.nd (se_bin os_xor (sb (se_var 6 (pv 6))) (sb (se_ix (sb_own 2 (pv 2)) (sb (se_var 7 (pv 7)))))))))
    (ss_one (ss_putD 4 O.u1 (pv 4) (se_var 6 (pv 6)))))))
    (ss_cons (ss_asg 8 O.nd se_int)
    (ss_cons (ss_while 100000 O.po (st_cmp (os_in O.u65) (sb (se_var 8 (pv 8))) (sb_own 4 (pv 4)))
    (ss_one (ss_asg 8 O.nd (se_bin os_add (sb (se_var 8 (pv 8))) (sb se_int)))))
    (ss_one (ss_app 2 (pv 2) (se_var 8 (pv 8)))))))))
    (ss_one (ss_retO 2 (pv 2)))))
theorem ok__law_times {k : Nat} {f : Addr} {fd : FuncData} {rec : List D → R D} (F : Fun K "_law_times" "_law_times" s__law_times f fd) (z_rec : Fz P w K mg base k "_law_times" 3 rec) :
    FnOk P w K mg base (L2N.CX P w) (k + 1) f fd ["one", "two", "level"] (spOf K mg 3 (runF 7 (b__law_times rec))) :=
  fn_ok F sc__law_times fun cdv A outer s H E O =>
    (ss_cons (ss_if (st_w (sw_or (st_cmp os_lt (sb (se_var 0 (pv 0))) (sb se_int)) (sw_or1 (st_cmp os_lt (sb (se_var 1 (pv 1))) (sb se_int)))))
    (ss_one (ss_ret (se_bin os_mul (sb (se_var 0 (pv 0))) (sb (se_var 1 (pv 1))))))
    ss_nil)
    (ss_cons (ss_asg 3 O.nd (se_ix (sb (se_sf (sf_lst (sa_cons se_int (sa_cons se_int (sa_cons se_int (sa_cons se_int sa_nil))))))) (sb (se_var 2 (pv 2)))))
    (ss_cons (ss_if (st_w (sw_and (st_cmp os_lt (sb (se_var 0 (pv 0))) (sb (se_var 3 (pv 3)))) (sw_and1 (st_cmp os_lt (sb (se_var 1 (pv 1))) (sb (se_var 3 (pv 3)))))))
    (ss_one (ss_ret (se_call z_rec O.room O.ps (sa_cons (se_var 0 (pv 0)) (sa_cons (se_var 1 (pv 1)) (sa_cons (se_bin os_sub (sb (se_var 2 (pv 2))) (sb se_int)) sa_nil))))))
    ss_nil)
    (ss_cons (ss_asg 4 O.nd (se_call z_rec O.room O.ps (sa_cons (se_bin os_fdiv (sb (se_var 0 (pv 0))) (sb (se_var 3 (pv 3)))) (sa_cons (se_bin os_fdiv (sb (se_var 1 (pv 1))) (sb (se_var 3 (pv 3)))) (sa_cons (se_bin os_sub (sb (se_var 2 (pv 2))) (sb se_int)) sa_nil)))))
    (ss_cons (ss_asg 5 O.nd (se_bin os_xor (sb (se_call z_rec O.room O.ps (sa_cons (se_bin os_fdiv (sb (se_var 0 (pv 0))) (sb (se_var 3 (pv 3)))) (sa_cons (se_bin os_mod (sb (se_var 1 (pv 1))) (sb (se_var 3 (pv 3)))) (sa_cons (se_bin os_sub (sb (se_var 2 (pv 2))) (sb se_int)) sa_nil))))) (sb (se_call z_rec O.room O.ps (sa_cons (se_bin os_mod (sb (se_var 0 (pv 0))) (sb (se_var 3 (pv 3)))) (sa_cons (se_bin os_fdiv (sb (se_var 1 (pv 1))) (sb (se_var 3 (pv 3)))) (sa_cons (se_bin os_sub (sb (se_var 2 (pv 2))) (sb se_int)) sa_nil)))))))
    (ss_cons (ss_asg 6 O.nd (se_call z_rec O.room O.ps (sa_cons (se_bin os_mod (sb (se_var 0 (pv 0))) (sb (se_var 3 (pv 3)))) (sa_cons (se_bin os_mod (sb (se_var 1 (pv 1))) (sb (se_var 3 (pv 3)))) (sa_cons (se_bin os_sub (sb (se_var 2 (pv 2))) (sb se_int)) sa_nil)))))
    (ss_one (ss_ret (se_bin os_add (sb (se_bin os_mul (sb (se_bin os_xor (sb (se_var 4 (pv 4))) (sb (se_var 5 (pv 5))))) (sb (se_var 3 (pv 3))))) (sb (se_bin os_xor (sb (se_var 6 (pv 6))) (sb (se_call z_rec O.room O.ps (sa_cons (se_var 4 (pv 4)) (sa_cons (se_bin os_fdiv (sb (se_var 3 (pv 3))) (sb se_int)) (sa_cons (se_bin os_sub (sb (se_var 2 (pv 2))) (sb se_int)) sa_nil))))))))))))))))
theorem ok__law_over {k : Nat} {f : Addr} {fd : FuncData} (F : Fun K "_law_over" "_law_over" s__law_over f fd)  :
    FnOk P w K mg base (L2N.CX P w) (k + 1) f fd ["table", "places"] (spOf K mg 2 (runF 4 b__law_over)) :=
  fn_ok F sc__law_over fun cdv A outer s H E O =>
    (ss_cons (ss_asg 2 O.nd se_int)
    (ss_cons (ss_for O.po O.calm (si_list (se_var 1 (pv 1))) (sg_name 3 O.nd)
    (ss_one (ss_asg 2 O.nd (se_bin os_xor (sb (se_var 2 (pv 2))) (sb (se_ix (sb (se_ix (sb (se_var 0 (pv 0))) (sb (se_ix (sb (se_var 3 (pv 3))) (sb se_int))))) (sb (se_ix (sb (se_var 3 (pv 3))) (sb se_int)))))))))
    (ss_one (ss_ret (se_var 2 (pv 2))))))
theorem ok__law_crossed {k : Nat} {f : Addr} {fd : FuncData} (F : Fun K "_law_crossed" "_law_crossed" s__law_crossed f fd)  :
    FnOk P w K mg base (L2N.CX P w) (k + 1) f fd ["xs", "ys"] (spOf K mg 2 (runF 5 b__law_crossed)) :=
  fn_ok F sc__law_crossed fun cdv A outer s H E O =>
    (ss_cons (ss_asg 2 O.nd (se_sf (sf_lst sa_nil)))
    (ss_cons (ss_for O.po O.calm (si_list (se_var 0 (pv 0))) (sg_name 3 O.nd)
    (ss_one (ss_asg 2 O.nd (se_bin os_add (sb (se_var 2 (pv 2))) (sb (se_sf (sf_lc O.calm O.nd (si_list (se_var 1 (pv 1))) (blkOk_by (N := N__law_crossed) (sc := defScope s__law_crossed) (own := [("y", 4)]) (by decide +kernel)) (fun _ _ _ _ _ => pg_name (i := 4) O.nd rfl (Or.inl rfl)) (fun _ _ _ _ _ => sts_nil) (fun _ _ _ _ _ => (se_tup (sa_cons (se_var 3 (pv 3)) (sa_cons (se_var 4 (pv 4)) sa_nil)))))))))))
    (ss_one (ss_ret (se_var 2 (pv 2))))))
theorem ok__law_first {k : Nat} {f : Addr} {fd : FuncData} (F : Fun K "_law_first" "_law_first" s__law_first f fd) (z__law_over : Fz P w K mg base k "_law_over" 2 fn__law_over) (z__law_shapes : Fz P w K mg base k "_law_shapes" 2 fn__law_shapes) (z__law_crossed : Fz P w K mg base k "_law_crossed" 2 fn__law_crossed) :
    FnOk P w K mg base (L2N.CX P w) (k + 1) f fd ["rules", "table", "heads"] (spOf K mg 3 (runF 7 b__law_first)) :=
  fn_ok F sc__law_first fun cdv A outer s H E O =>
    (ss_cons (ss_asg 3 O.nd (se_call z__law_over O.room O.ps (sa_cons (se_var 1 (pv 1)) (sa_cons (se_var 2 (pv 2)) sa_nil))))
    (ss_cons (ss_for O.po O.calm (si_list (se_var 2 (pv 2))) (sg_name 4 O.nd)
    (ss_one (ss_for O.po O.calm (si_list (se_call z__law_shapes O.room O.ps (sa_cons (se_ix (sb (se_var 0 (pv 0))) (sb se_int)) (sa_cons (se_ix (sb (se_var 4 (pv 4))) (sb se_int)) sa_nil)))) (sg_name 5 O.nd)
    (ss_one (ss_for O.po O.calm (si_list (se_call z__law_shapes O.room O.ps (sa_cons (se_ix (sb (se_var 0 (pv 0))) (sb se_int)) (sa_cons (se_ix (sb (se_var 4 (pv 4))) (sb se_int)) sa_nil)))) (sg_name 6 O.nd)
    (ss_one (ss_if (st_cmp (os_eq O.u64) (sb (se_call z__law_over O.room O.ps (sa_cons (se_var 1 (pv 1)) (sa_cons (se_call z__law_crossed O.room O.ps (sa_cons (se_var 5 (pv 5)) (sa_cons (se_var 6 (pv 6)) sa_nil))) sa_nil)))) (sb (se_var 3 (pv 3))))
    (ss_one (ss_ret (se_tup (sa_cons (se_var 5 (pv 5)) (sa_cons (se_var 6 (pv 6)) sa_nil)))))
    ss_nil)))))))
    (ss_one (ss_ret se_non))))
theorem ok__law_is_turn {k : Nat} {f : Addr} {fd : FuncData} (F : Fun K "_law_is_turn" "_law_is_turn" s__law_is_turn f fd) (m_isinstance : mg "isinstance" = none) (m_tuple : mg "tuple" = none) (m_len : mg "len" = none) (m_range : mg "range" = none) (m_list : mg "list" = none) (m_int : mg "int" = none) (m_bool : mg "bool" = none) :
    FnOk P w K mg base (L2N.CX P w) (k + 1) f fd ["found", "due"] (spOf K mg 2 (runF 4 b__law_is_turn)) :=
  fn_ok F sc__law_is_turn fun cdv A outer s H E O =>
    (ss_cons (ss_if (st_w (sw_or (st_not (st_val (se_isi "tuple" (sb (se_var 0 (pv 0))) m_isinstance m_tuple))) (sw_or1 (st_cmp (os_ne O.u64) (sb (se_b1 cs_len (sb (se_var 0 (pv 0))) m_len)) (sb se_int)))))
    (ss_one (ss_ret se_bl))
    ss_nil)
    (ss_cons (ss_for O.po O.calm (si_r1 se_int m_range) (sg_name 2 O.nd)
    (ss_cons (ss_if (st_w (sw_or (st_not (st_val (se_isi "list" (sb (se_ix (sb (se_var 0 (pv 0))) (sb (se_var 2 (pv 2))))) m_isinstance m_list))) (sw_or1 (st_cmp (os_ne O.u64) (sb (se_b1 cs_len (sb (se_ix (sb (se_var 0 (pv 0))) (sb (se_var 2 (pv 2))))) m_len)) (sb (se_b1 cs_len (sb (se_ix (sb (se_var 1 (pv 1))) (sb (se_var 2 (pv 2))))) m_len))))))
    (ss_one (ss_ret se_bl))
    ss_nil)
    (ss_one (ss_for O.po O.calm (si_r1 (se_b1 cs_len (sb (se_ix (sb (se_var 1 (pv 1))) (sb (se_var 2 (pv 2))))) m_len) m_range) (sg_name 3 O.nd)
    (ss_one (ss_if (st_w (sw_or (st_not (st_val (se_isi "int" (sb (se_ix (sb (se_ix (sb (se_var 0 (pv 0))) (sb (se_var 2 (pv 2))))) (sb (se_var 3 (pv 3))))) m_isinstance m_int))) (sw_or (st_val (se_isi "bool" (sb (se_ix (sb (se_ix (sb (se_var 0 (pv 0))) (sb (se_var 2 (pv 2))))) (sb (se_var 3 (pv 3))))) m_isinstance m_bool)) (sw_or1 (st_cmp (os_ne O.u64) (sb (se_ix (sb (se_ix (sb (se_var 0 (pv 0))) (sb (se_var 2 (pv 2))))) (sb (se_var 3 (pv 3))))) (sb (se_ix (sb (se_ix (sb (se_var 1 (pv 1))) (sb (se_var 2 (pv 2))))) (sb (se_var 3 (pv 3))))))))))
    (ss_one (ss_ret se_bl))
    ss_nil))))))
    (ss_one (ss_ret se_bl))))
theorem ok_law {k : Nat} {f : Addr} {fd : FuncData} (F : Fun K "law" "law" s_law f fd) (z__law_rule : Fz P w K mg base k "_law_rule" 2 fn__law_rule) (z__law_cell_at : Fz P w K mg base k "_law_cell_at" 2 fn__law_cell_at) (z__law_board : Fz P w K mg base k "_law_board" 1 fn__law_board) (z__law_far : Fz P w K mg base k "_law_far" 1 fn__law_far) (z__law_numbers : Fz P w K mg base k "_law_numbers" 2 fn__law_numbers) (z__law_times : Fz P w K mg base k "_law_times" 3 (fn__law_times 6)) (z_board_reply : Fz P w K mg base k "board_reply" 3 fn_board_reply) (z__law_over : Fz P w K mg base k "_law_over" 2 fn__law_over) (z__law_first : Fz P w K mg base k "_law_first" 3 fn__law_first) (z__law_is_turn : Fz P w K mg base k "_law_is_turn" 2 fn__law_is_turn) (z__law_crossed : Fz P w K mg base k "_law_crossed" 2 fn__law_crossed) (m_list : mg "list" = none) (m_range : mg "range" = none) :
    FnOk P w K mg base (L2N.CX P w) (k + 1) f fd ["script"] (spOf K mg 1 (runF 15 b_law)) :=
  fn_ok F sc_law fun cdv A outer s H E O =>
    (ss_cons (ss_asg 1 O.nd se_int)
    (ss_cons (ss_asg 2 O.nd (se_sf (sf_lst (sa_cons (se_call z__law_rule O.room O.ps (sa_cons (se_call z__law_cell_at O.room O.ps (sa_cons (se_var 0 (pv 0)) (sa_cons se_int sa_nil))) (sa_cons se_int sa_nil))) (sa_cons (se_call z__law_rule O.room O.ps (sa_cons (se_call z__law_cell_at O.room O.ps (sa_cons (se_var 0 (pv 0)) (sa_cons se_int sa_nil))) (sa_cons se_int sa_nil))) sa_nil)))))
    (ss_cons (ss_asg 3 O.nd (se_call z__law_board O.room O.ps (sa_cons (se_call z__law_cell_at O.room O.ps (sa_cons (se_var 0 (pv 0)) (sa_cons se_int sa_nil))) sa_nil)))
    (ss_cons (ss_if (st_cmp (os_eq O.u64) (sb (se_bin os_mod (sb (se_call z__law_cell_at O.room O.ps (sa_cons (se_var 0 (pv 0)) (sa_cons se_int sa_nil)))) (sb se_int))) (sb se_int))
    (ss_cons (ss_asg 1 O.nd se_int)
    (ss_cons (ss_asg 2 O.nd (se_sf (sf_lst (sa_cons (se_call z__law_rule O.room O.ps (sa_cons (se_call z__law_cell_at O.room O.ps (sa_cons (se_var 0 (pv 0)) (sa_cons se_int sa_nil))) (sa_cons se_int sa_nil))) (sa_cons (se_call z__law_rule O.room O.ps (sa_cons (se_call z__law_cell_at O.room O.ps (sa_cons (se_var 0 (pv 0)) (sa_cons se_int sa_nil))) (sa_cons se_int sa_nil))) sa_nil)))))
    (ss_one (ss_asg 3 O.nd (se_call z__law_far O.room O.ps (sa_cons (se_var 0 (pv 0)) sa_nil))))))
    ss_nil)
    (ss_drop 0 (ss_cons (ss_asg 4 O.nd (se_call z__law_numbers O.room O.ps (sa_cons (se_ix (sb (se_var 2 (pv 2))) (sb se_int)) (sa_cons (se_var 1 (pv 1)) sa_nil))))
    (ss_cons (ss_own 5 O.nd (sf_lst sa_nil))
    (ss_cons (ss_for O.po O.calm (si_list (se_call z__law_numbers O.room O.ps (sa_cons (se_ix (sb (se_var 2 (pv 2))) (sb se_int)) (sa_cons (se_var 1 (pv 1)) sa_nil)))) (sg_name 6 O.nd)
    (ss_one (ss_app 5 (pv 5) (se_sf (sf_lc O.calm O.nd (si_list (se_var 4 (pv 4))) (blkOk_by (N := N_law) (sc := defScope s_law) (own := [("two", 7)]) (by decide +kernel)) (fun _ _ _ _ _ => pg_name (i := 7) O.nd rfl (Or.inl rfl)) (fun _ _ _ _ _ => sts_nil) (fun _ _ _ _ _ => (se_call z__law_times O.room passN (sa_cons (se_var 6 (pv 6)) (sa_cons (se_var 7 (pv 7)) (sa_cons se_int sa_nil))))))))))
    (ss_cons (ss_asg 8 O.nd (se_sf (sf_t1 cf_list (sb (se_var 3 (pv 3))) m_list)))
    (ss_frz 5 (ss_freshB O.nd (spv_call z_board_reply O.room O.ps (sab_cons (sb (se_ix (sb (se_var 2 (pv 2))) (sb se_int))) (sab_cons (sb (se_ix (sb (se_var 2 (pv 2))) (sb se_int))) (sab_cons (sb (se_var 8 (pv 8))) sab_nil))))
    (ss_cons (ss_if (st_cmp (os_ne O.u64) (sb (se_var 8 (pv 8))) (sb (se_var 3 (pv 3))))
    (ss_one (ss_ret se_bl))
    ss_nil)
    (ss_cons (ss_if (st_cmp (os_eq O.u64) (sb (se_call z__law_over O.room O.ps (sa_cons (se_var 5 (pv 5)) (sa_cons (se_var 3 (pv 3)) sa_nil)))) (sb se_int))
    (ss_one (ss_ret (se_cmp os_isN (sb (se_var 9 (pv 9))) (sb se_non))))
    ss_nil)
    (ss_cons (ss_asg 10 O.nd (se_call z__law_first O.room O.ps (sa_cons (se_var 2 (pv 2)) (sa_cons (se_var 5 (pv 5)) (sa_cons (se_var 3 (pv 3)) sa_nil)))))
    (ss_cons (ss_if (st_w (sw_or (st_cmp os_isN (sb (se_var 10 (pv 10))) (sb se_non)) (sw_or1 (st_not (st_val (se_call z__law_is_turn O.room O.ps (sa_cons (se_var 9 (pv 9)) (sa_cons (se_var 10 (pv 10)) sa_nil))))))))
    (ss_one (ss_ret se_bl))
    ss_nil)
    (ss_cons ss_never
    (ss_cons (ss_if (st_cmp (os_ne O.u64) (sb (se_ix (sb (se_var 9 (pv 9))) (sb se_int))) (sb (se_ix (sb (se_var 10 (pv 10))) (sb se_int))))
    (ss_one (ss_ret se_bl))
    ss_nil)
    (ss_cons (ss_asg 11 O.nd (se_call z__law_crossed O.room O.ps (sa_cons (se_ix (sb (se_var 10 (pv 10))) (sb se_int)) (sa_cons (se_ix (sb (se_var 10 (pv 10))) (sb se_int)) sa_nil))))
    (ss_cons (ss_asg 12 O.nd (se_sf (sf_lst sa_nil)))
    (ss_cons (ss_for O.po O.calm (si_r1 (se_var 1 (pv 1)) m_range) (sg_name 13 O.nd)
    (ss_one (ss_asg 12 O.nd (se_bin os_add (sb (se_var 12 (pv 12))) (sb (se_sf (sf_lc O.calm O.nd (si_r1 (se_var 1 (pv 1)) m_range) (blkOk_by (N := N_law) (sc := defScope s_law) (own := [("y", 14)]) (by decide +kernel)) (fun _ _ _ _ _ => pg_name (i := 14) O.nd rfl (Or.inl rfl)) (fun _ _ _ _ _ => (sts_one (st_cmp (os_ne O.u64) (sb (se_cmp (os_in O.u65) (sb (se_tup (sa_cons (se_var 13 (pv 13)) (sa_cons (se_var 14 (pv 14)) sa_nil)))) (sb (se_var 3 (pv 3))))) (sb (se_cmp (os_in O.u65) (sb (se_tup (sa_cons (se_var 13 (pv 13)) (sa_cons (se_var 14 (pv 14)) sa_nil)))) (sb (se_var 11 (pv 11)))))))) (fun _ _ _ _ _ => (se_tup (sa_cons (se_var 13 (pv 13)) (sa_cons (se_var 14 (pv 14)) sa_nil)))))))))))
    (ss_one (ss_ret (se_cmp os_isN (sb (se_call z_board_reply O.room O.ps (sa_cons (se_ix (sb (se_var 2 (pv 2))) (sb se_int)) (sa_cons (se_ix (sb (se_var 2 (pv 2))) (sb se_int)) (sa_cons (se_var 12 (pv 12)) sa_nil))))) (sb se_non)))))))))))))
    fun x y => (p_cons (ss_if (st_cmp (os_ne O.u64) (sb (se_var 8 (pv 8))) (sb (se_var 3 (pv 3))))
    (ss_one (ss_ret se_bl))
    ss_nil)
    (p_cons (ss_if (st_cmp (os_eq O.u64) (sb (se_call z__law_over O.room O.ps (sa_cons (se_var 5 (pv 5)) (sa_cons (se_var 3 (pv 3)) sa_nil)))) (sb se_int))
    (ss_one (ss_ret (se_cmp os_isN (sb (se_var 9 (pv 9))) (sb se_non))))
    ss_nil)
    (p_cons (ss_asg 10 O.nd (se_call z__law_first O.room O.ps (sa_cons (se_var 2 (pv 2)) (sa_cons (se_var 5 (pv 5)) (sa_cons (se_var 3 (pv 3)) sa_nil)))))
    (p_ifQ (fun _ _ _ => rp_two) (st_w (sw_or (st_cmp os_isN (sb (se_var 10 (pv 10))) (sb se_non)) (sw_or1 (st_not (st_val (se_call z__law_is_turn O.room O.ps (sa_cons (se_var 9 (pv 9)) (sa_cons (se_var 10 (pv 10)) sa_nil))))))))
    (p_drop (ss_one (ss_ret se_bl)))
    (p_app0 (ps_expr (pe_bm PySem.F.plainAttrs_list PySem.F.slot_list_append PySem.F.type_list_append mt_append (pe_ix ix_tup (pv 9) pe_int (fun _ _ => rfl)) (pa_cons pe_int pa_nil))) fun x y => (p_ifQ (fun _ _ _ => rp_two) (st_cmp (os_ne O.u64) (sb (se_ix (sb (se_var 9 (pv 9))) (sb se_int))) (sb (se_ix (sb (se_var 10 (pv 10))) (sb se_int))))
    (p_drop (ss_one (ss_ret se_bl)))
    (p_drop (ss_cons (ss_asg 11 O.nd (se_call z__law_crossed O.room O.ps (sa_cons (se_ix (sb (se_var 10 (pv 10))) (sb se_int)) (sa_cons (se_ix (sb (se_var 10 (pv 10))) (sb se_int)) sa_nil))))
    (ss_cons (ss_asg 12 O.nd (se_sf (sf_lst sa_nil)))
    (ss_cons (ss_for O.po O.calm (si_r1 (se_var 1 (pv 1)) m_range) (sg_name 13 O.nd)
    (ss_one (ss_asg 12 O.nd (se_bin os_add (sb (se_var 12 (pv 12))) (sb (se_sf (sf_lc O.calm O.nd (si_r1 (se_var 1 (pv 1)) m_range) (blkOk_by (N := N_law) (sc := defScope s_law) (own := [("y", 14)]) (by decide +kernel)) (fun _ _ _ _ _ => pg_name (i := 14) O.nd rfl (Or.inl rfl)) (fun _ _ _ _ _ => (sts_one (st_cmp (os_ne O.u64) (sb (se_cmp (os_in O.u65) (sb (se_tup (sa_cons (se_var 13 (pv 13)) (sa_cons (se_var 14 (pv 14)) sa_nil)))) (sb (se_var 3 (pv 3))))) (sb (se_cmp (os_in O.u65) (sb (se_tup (sa_cons (se_var 13 (pv 13)) (sa_cons (se_var 14 (pv 14)) sa_nil)))) (sb (se_var 11 (pv 11)))))))) (fun _ _ _ _ _ => (se_tup (sa_cons (se_var 13 (pv 13)) (sa_cons (se_var 14 (pv 14)) sa_nil)))))))))))
    (ss_one (ss_ret (se_cmp os_isN (sb (se_call z_board_reply O.room O.ps (sa_cons (se_ix (sb (se_var 2 (pv 2))) (sb se_int)) (sa_cons (se_ix (sb (se_var 2 (pv 2))) (sb se_int)) (sa_cons (se_var 12 (pv 12)) sa_nil))))) (sb se_non)))))))))))))))))))))))))
end
end Coin

namespace Coin
open PySem PySem.Spec PyProof.Rows L2 Cn
theorem cell_at (ns : List Int) (k : Nat) (i : Int) (hi : i = (k : Int)) : fn__law_cell_at [.scr ns, .int i] = .ok (.int (cell ns k)) := by
  subst hi
  unfold fn__law_cell_at b__law_cell_at
  by_cases h : k < ns.length
  · have h' : (k : Int) < (ns.length : Int) := by omega
    simp only [Cn.runF_a, Cn.sSeq_a, Cn.sIf_a, Cn.sAsg_a, Cn.sOwn_a, Cn.sRet_a, Cn.sRetO_a, Cn.sNil_a, Cn.sRaise_a, Cn.sExpr_a, Cn.sFrz_a, Cn.sDrop_a, Cn.frz_a, Cn.sApp_a, Cn.sExt_a, Cn.sPut_a, Cn.sPutD_a, Cn.sFor_a, Cn.sWhile_a, Cn.eV_a, Cn.eO_a, Cn.eC_a, Cn.eOp_a, Cn.eUn_a, Cn.eAnd_a, Cn.eOr_a, Cn.eChain_a, Cn.eLst_a, Cn.eTup_a, Cn.eCall_a, Cn.eCallB_a, Cn.eSl_a, Cn.eComp_a, Cn.eYes_a, Cn.aNil_a, Cn.aCons_a, Cn.oNone_a, Cn.oSome_a, Cn.eDict1_a, Cn.iL_a, Cn.iT_a, Cn.iR1_a, Cn.iR2_a, Cn.iR3_a, Cn.tgN_a, Cn.bind_ok, Cn.bind_ex, Cn.rOut_ok, Cn.rOut_ex, List.map_cons, List.map_nil, List.length_cons, List.length_nil, List.cons_append, List.nil_append, List.replicate, List.set, List.getElem?_cons_zero, List.getElem?_cons_succ, Nat.reduceAdd, Nat.reduceSub, Cn.addD, Cn.subD, Cn.negD, Cn.notD, Cn.ltD, Cn.gtD, Cn.geD, Cn.leD, Cn.lenD, Cn.intD, Cn.listD, Cn.seqD, Cn.tupD, Cn.isi_ii, Cn.isi_ib, Cn.isi_bb, Cn.isi_ll, Cn.isi_tt, Cn.isi_ss, Cn.eqD_ii, Cn.neD_ii, Cn.eqD_ss, Cn.neD_ss, Cn.eqD_bb, Cn.neD_bb, decide_true, decide_false, Bool.not_true, Bool.not_false, ixD, decide_eq_true h', Cn.atI_cell h]
  · have h' : ¬ (k : Int) < (ns.length : Int) := by omega
    simp only [Cn.runF_a, Cn.sSeq_a, Cn.sIf_a, Cn.sAsg_a, Cn.sOwn_a, Cn.sRet_a, Cn.sRetO_a, Cn.sNil_a, Cn.sRaise_a, Cn.sExpr_a, Cn.sFrz_a, Cn.sDrop_a, Cn.frz_a, Cn.sApp_a, Cn.sExt_a, Cn.sPut_a, Cn.sPutD_a, Cn.sFor_a, Cn.sWhile_a, Cn.eV_a, Cn.eO_a, Cn.eC_a, Cn.eOp_a, Cn.eUn_a, Cn.eAnd_a, Cn.eOr_a, Cn.eChain_a, Cn.eLst_a, Cn.eTup_a, Cn.eCall_a, Cn.eCallB_a, Cn.eSl_a, Cn.eComp_a, Cn.eYes_a, Cn.aNil_a, Cn.aCons_a, Cn.oNone_a, Cn.oSome_a, Cn.eDict1_a, Cn.iL_a, Cn.iT_a, Cn.iR1_a, Cn.iR2_a, Cn.iR3_a, Cn.tgN_a, Cn.bind_ok, Cn.bind_ex, Cn.rOut_ok, Cn.rOut_ex, List.map_cons, List.map_nil, List.length_cons, List.length_nil, List.cons_append, List.nil_append, List.replicate, List.set, List.getElem?_cons_zero, List.getElem?_cons_succ, Nat.reduceAdd, Nat.reduceSub, Cn.addD, Cn.subD, Cn.negD, Cn.notD, Cn.ltD, Cn.gtD, Cn.geD, Cn.leD, Cn.lenD, Cn.intD, Cn.listD, Cn.seqD, Cn.tupD, Cn.isi_ii, Cn.isi_ib, Cn.isi_bb, Cn.isi_ll, Cn.isi_tt, Cn.isi_ss, Cn.eqD_ii, Cn.neD_ii, Cn.eqD_ss, Cn.neD_ss, Cn.eqD_bb, Cn.neD_bb, decide_true, decide_false, Bool.not_true, Bool.not_false, decide_eq_false h', Cn.cell_out h]
abbrev rl (w : Str) (k : Nat) : D := .tup [.str w, .int (1 + (k : Int))]
theorem rule_ok (i : Int) (m : Nat) (hm : 0 < m) : ∃ k : Nat, (k < 4 ∧ fn__law_rule [.int i, iN m] = .ok (rl "run" k)) ∨ (k < m ∧ (fn__law_rule [.int i, iN m] = .ok (rl "most" k) ∨ fn__law_rule [.int i, iN m] = .ok (rl "just" k))) := by
  have hmm := @modD_pos (i / 3) (m : Int) (by omega)
  unfold fn__law_rule b__law_rule
  by_cases h : i % 3 = 2
  · refine ⟨(i / 3 % 4).toNat, .inl ⟨by omega, ?_⟩⟩
    unfold rl
    rw [Int.toNat_of_nonneg (by omega)]
    simp only [Cn.runF_a, Cn.sSeq_a, Cn.sIf_a, Cn.sAsg_a, Cn.sOwn_a, Cn.sRet_a, Cn.sRetO_a, Cn.sNil_a, Cn.sRaise_a, Cn.sExpr_a, Cn.sFrz_a, Cn.sDrop_a, Cn.frz_a, Cn.sApp_a, Cn.sExt_a, Cn.sPut_a, Cn.sPutD_a, Cn.sFor_a, Cn.sWhile_a, Cn.eV_a, Cn.eO_a, Cn.eC_a, Cn.eOp_a, Cn.eUn_a, Cn.eAnd_a, Cn.eOr_a, Cn.eChain_a, Cn.eLst_a, Cn.eTup_a, Cn.eCall_a, Cn.eCallB_a, Cn.eSl_a, Cn.eComp_a, Cn.eYes_a, Cn.aNil_a, Cn.aCons_a, Cn.oNone_a, Cn.oSome_a, Cn.eDict1_a, Cn.iL_a, Cn.iT_a, Cn.iR1_a, Cn.iR2_a, Cn.iR3_a, Cn.tgN_a, Cn.bind_ok, Cn.bind_ex, Cn.rOut_ok, Cn.rOut_ex, List.map_cons, List.map_nil, List.length_cons, List.length_nil, List.cons_append, List.nil_append, List.replicate, List.set, List.getElem?_cons_zero, List.getElem?_cons_succ, Nat.reduceAdd, Nat.reduceSub, Cn.addD, Cn.subD, Cn.negD, Cn.notD, Cn.ltD, Cn.gtD, Cn.geD, Cn.leD, Cn.lenD, Cn.intD, Cn.listD, Cn.seqD, Cn.tupD, Cn.isi_ii, Cn.isi_ib, Cn.isi_bb, Cn.isi_ll, Cn.isi_tt, Cn.isi_ss, Cn.eqD_ii, Cn.neD_ii, Cn.eqD_ss, Cn.neD_ss, Cn.eqD_bb, Cn.neD_bb, decide_true, decide_false, Bool.not_true, Bool.not_false, modD_pos (show (0 : Int) < 3 by decide), modD_pos (show (0 : Int) < 4 by decide), fdivD_pos (show (0 : Int) < 3 ∧ (3 : Int) < 1073741824 by decide), decide_eq_true h]
  · have y0 := Int.emod_nonneg (i / 3) (show (m : Int) ≠ 0 by omega)
    have y1 := Int.emod_lt_of_pos (i / 3) (show (0 : Int) < (m : Int) by omega)
    refine ⟨(i / 3 % (m : Int)).toNat, .inr ⟨by omega, ?_⟩⟩
    unfold rl
    rw [Int.toNat_of_nonneg (by omega)]
    have h2 : i % 3 = 0 ∨ i % 3 = 1 := by omega
    rcases h2 with h2 | h2
    · left
      have e : ixD (.lst [.str "most", .str "just"]) (.int 0) = .ok (.str "most") := rfl
      simp only [Cn.runF_a, Cn.sSeq_a, Cn.sIf_a, Cn.sAsg_a, Cn.sOwn_a, Cn.sRet_a, Cn.sRetO_a, Cn.sNil_a, Cn.sRaise_a, Cn.sExpr_a, Cn.sFrz_a, Cn.sDrop_a, Cn.frz_a, Cn.sApp_a, Cn.sExt_a, Cn.sPut_a, Cn.sPutD_a, Cn.sFor_a, Cn.sWhile_a, Cn.eV_a, Cn.eO_a, Cn.eC_a, Cn.eOp_a, Cn.eUn_a, Cn.eAnd_a, Cn.eOr_a, Cn.eChain_a, Cn.eLst_a, Cn.eTup_a, Cn.eCall_a, Cn.eCallB_a, Cn.eSl_a, Cn.eComp_a, Cn.eYes_a, Cn.aNil_a, Cn.aCons_a, Cn.oNone_a, Cn.oSome_a, Cn.eDict1_a, Cn.iL_a, Cn.iT_a, Cn.iR1_a, Cn.iR2_a, Cn.iR3_a, Cn.tgN_a, Cn.bind_ok, Cn.bind_ex, Cn.rOut_ok, Cn.rOut_ex, List.map_cons, List.map_nil, List.length_cons, List.length_nil, List.cons_append, List.nil_append, List.replicate, List.set, List.getElem?_cons_zero, List.getElem?_cons_succ, Nat.reduceAdd, Nat.reduceSub, Cn.addD, Cn.subD, Cn.negD, Cn.notD, Cn.ltD, Cn.gtD, Cn.geD, Cn.leD, Cn.lenD, Cn.intD, Cn.listD, Cn.seqD, Cn.tupD, Cn.isi_ii, Cn.isi_ib, Cn.isi_bb, Cn.isi_ll, Cn.isi_tt, Cn.isi_ss, Cn.eqD_ii, Cn.neD_ii, Cn.eqD_ss, Cn.neD_ss, Cn.eqD_bb, Cn.neD_bb, decide_true, decide_false, Bool.not_true, Bool.not_false, modD_pos (show (0 : Int) < 3 by decide), hmm, fdivD_pos (show (0 : Int) < 3 ∧ (3 : Int) < 1073741824 by decide), decide_eq_false h, h2, e, decide_eq_false (show ¬ (0 : Int) = 2 by decide)]
    · right
      have e : ixD (.lst [.str "most", .str "just"]) (.int 1) = .ok (.str "just") := rfl
      simp only [Cn.runF_a, Cn.sSeq_a, Cn.sIf_a, Cn.sAsg_a, Cn.sOwn_a, Cn.sRet_a, Cn.sRetO_a, Cn.sNil_a, Cn.sRaise_a, Cn.sExpr_a, Cn.sFrz_a, Cn.sDrop_a, Cn.frz_a, Cn.sApp_a, Cn.sExt_a, Cn.sPut_a, Cn.sPutD_a, Cn.sFor_a, Cn.sWhile_a, Cn.eV_a, Cn.eO_a, Cn.eC_a, Cn.eOp_a, Cn.eUn_a, Cn.eAnd_a, Cn.eOr_a, Cn.eChain_a, Cn.eLst_a, Cn.eTup_a, Cn.eCall_a, Cn.eCallB_a, Cn.eSl_a, Cn.eComp_a, Cn.eYes_a, Cn.aNil_a, Cn.aCons_a, Cn.oNone_a, Cn.oSome_a, Cn.eDict1_a, Cn.iL_a, Cn.iT_a, Cn.iR1_a, Cn.iR2_a, Cn.iR3_a, Cn.tgN_a, Cn.bind_ok, Cn.bind_ex, Cn.rOut_ok, Cn.rOut_ex, List.map_cons, List.map_nil, List.length_cons, List.length_nil, List.cons_append, List.nil_append, List.replicate, List.set, List.getElem?_cons_zero, List.getElem?_cons_succ, Nat.reduceAdd, Nat.reduceSub, Cn.addD, Cn.subD, Cn.negD, Cn.notD, Cn.ltD, Cn.gtD, Cn.geD, Cn.leD, Cn.lenD, Cn.intD, Cn.listD, Cn.seqD, Cn.tupD, Cn.isi_ii, Cn.isi_ib, Cn.isi_bb, Cn.isi_ll, Cn.isi_tt, Cn.isi_ss, Cn.eqD_ii, Cn.neD_ii, Cn.eqD_ss, Cn.neD_ss, Cn.eqD_bb, Cn.neD_bb, decide_true, decide_false, Bool.not_true, Bool.not_false, modD_pos (show (0 : Int) < 3 by decide), hmm, fdivD_pos (show (0 : Int) < 3 ∧ (3 : Int) < 1073741824 by decide), decide_eq_false h, h2, e, decide_eq_false (show ¬ (1 : Int) = 2 by decide)]
theorem fdivD_nat {a b : Nat} (h : 0 < b ∧ b < 1073741824) : fdivD (.int (a : Int)) (.int (b : Int)) = .ok (.int ((a / b : Nat) : Int)) := by
  rw [fdivD_pos (by omega), Int.natCast_ediv]
theorem modD_nat {a b : Nat} (h : 0 < b) : modD (.int (a : Int)) (.int (b : Int)) = .ok (.int ((a % b : Nat) : Int)) := by
  rw [modD_pos (by omega), Int.natCast_emod]
theorem xorD_nat {a b : Nat} : xorD (.int (a : Int)) (.int (b : Int)) = .ok (.int ((a ^^^ b : Nat) : Int)) := by
  rw [xorD_pos (by omega)]; rfl
theorem mulD_natl {a b : Nat} (h : a < 18446744073709551616) : mulD (.int (a : Int)) (.int (b : Int)) = .ok (.int ((a * b : Nat) : Int)) := by
  rw [mulD_l _ (by omega), Int.natCast_mul]
theorem mulD_natr {a b : Nat} (h : b < 18446744073709551616) : mulD (.int (a : Int)) (.int (b : Int)) = .ok (.int ((a * b : Nat) : Int)) := by
  rw [mulD_r _ (by omega), Int.natCast_mul]
def bs : Nat → Nat
  | 0 => 1
  | k + 1 => Nf.W k
theorem W_vals : Nf.W 0 = 2 ∧ Nf.W 1 = 4 ∧ Nf.W 2 = 16 ∧ Nf.W 3 = 256 ∧ Nf.W 4 = 65536 := by decide
theorem lower_bs {k : Nat} (h : k ≤ 3) : lowerD (.int ((bs (k + 1) : Nat) : Int)) = .ok (.int ((bs k : Nat) : Int)) := by
  have : k = 0 ∨ k = 1 ∨ k = 2 ∨ k = 3 := by omega
  rcases this with rfl | rfl | rfl | rfl <;> rfl
theorem W_le {k : Nat} (h : k ≤ 4) : Nf.W k ≤ 65536 := by
  have : k = 0 ∨ k = 1 ∨ k = 2 ∨ k = 3 ∨ k = 4 := by omega
  rcases this with rfl | rfl | rfl | rfl | rfl <;> decide
theorem half_bs {k : Nat} : ((Nf.W k : Nat) : Int) / 2 = ((Nf.W k / 2 : Nat) : Int) := by omega
theorem small_mul {k a b : Nat} (ha : a < Nf.W k) (hb : b < Nf.W k) (h : a < 2 ∨ b < 2) : a * b = Nf.nim k a b := by
  rcases h with h | h
  · have : a = 0 ∨ a = 1 := by omega
    rcases this with rfl | rfl
    · rw [Nf.nim_zero, Nat.zero_mul]
    · rw [Nf.nim_one k b hb, Nat.one_mul]
  · have : b = 0 ∨ b = 1 := by omega
    rcases this with rfl | rfl
    · rw [Nf.nim_comm, Nf.nim_zero, Nat.mul_zero]
    · rw [Nf.nim_comm, Nf.nim_one k a ha, Nat.mul_one]
theorem product_ok : ∀ (k n a b : Nat), k ≤ 4 → k < n → a < Nf.W k → b < Nf.W k → fn_product n [.int (a : Int), .int (b : Int), .int ((bs k : Nat) : Int)] = .ok (.int ((Nf.nim k a b : Nat) : Int))
  | k, 0, a, b, hk, hn, ha, hb => by omega
  | k, n + 1, a, b, hk, hn, ha, hb => by
    have wk := W_le hk
    show runF 7 (b_product (fn_product n)) _ = _
    unfold b_product
    by_cases h2 : a < 2 ∨ b < 2
    · have m : mulD (.int (a : Int)) (.int (b : Int)) = .ok (.int ((Nf.nim k a b : Nat) : Int)) := by
        rw [mulD_natl (by omega), small_mul ha hb h2]
      by_cases h0 : a < 2
      · simp only [Cn.runF_a, Cn.sSeq_a, Cn.sIf_a, Cn.sAsg_a, Cn.sOwn_a, Cn.sRet_a, Cn.sRetO_a, Cn.sNil_a, Cn.sRaise_a, Cn.sExpr_a, Cn.sFrz_a, Cn.sDrop_a, Cn.frz_a, Cn.sApp_a, Cn.sExt_a, Cn.sPut_a, Cn.sPutD_a, Cn.sFor_a, Cn.sWhile_a, Cn.eV_a, Cn.eO_a, Cn.eC_a, Cn.eOp_a, Cn.eUn_a, Cn.eAnd_a, Cn.eOr_a, Cn.eChain_a, Cn.eLst_a, Cn.eTup_a, Cn.eCall_a, Cn.eCallB_a, Cn.eSl_a, Cn.eComp_a, Cn.eYes_a, Cn.aNil_a, Cn.aCons_a, Cn.oNone_a, Cn.oSome_a, Cn.eDict1_a, Cn.iL_a, Cn.iT_a, Cn.iR1_a, Cn.iR2_a, Cn.iR3_a, Cn.tgN_a, Cn.bind_ok, Cn.bind_ex, Cn.rOut_ok, Cn.rOut_ex, List.map_cons, List.map_nil, List.length_cons, List.length_nil, List.cons_append, List.nil_append, List.replicate, List.set, List.getElem?_cons_zero, List.getElem?_cons_succ, Nat.reduceAdd, Nat.reduceSub, Cn.addD, Cn.subD, Cn.negD, Cn.notD, Cn.ltD, Cn.gtD, Cn.geD, Cn.leD, Cn.lenD, Cn.intD, Cn.listD, Cn.seqD, Cn.tupD, Cn.isi_ii, Cn.isi_ib, Cn.isi_bb, Cn.isi_ll, Cn.isi_tt, Cn.isi_ss, Cn.eqD_ii, Cn.neD_ii, Cn.eqD_ss, Cn.neD_ss, Cn.eqD_bb, Cn.neD_bb, decide_true, decide_false, Bool.not_true, Bool.not_false, decide_eq_true (show (a : Int) < 2 by omega), m]
      · simp only [Cn.runF_a, Cn.sSeq_a, Cn.sIf_a, Cn.sAsg_a, Cn.sOwn_a, Cn.sRet_a, Cn.sRetO_a, Cn.sNil_a, Cn.sRaise_a, Cn.sExpr_a, Cn.sFrz_a, Cn.sDrop_a, Cn.frz_a, Cn.sApp_a, Cn.sExt_a, Cn.sPut_a, Cn.sPutD_a, Cn.sFor_a, Cn.sWhile_a, Cn.eV_a, Cn.eO_a, Cn.eC_a, Cn.eOp_a, Cn.eUn_a, Cn.eAnd_a, Cn.eOr_a, Cn.eChain_a, Cn.eLst_a, Cn.eTup_a, Cn.eCall_a, Cn.eCallB_a, Cn.eSl_a, Cn.eComp_a, Cn.eYes_a, Cn.aNil_a, Cn.aCons_a, Cn.oNone_a, Cn.oSome_a, Cn.eDict1_a, Cn.iL_a, Cn.iT_a, Cn.iR1_a, Cn.iR2_a, Cn.iR3_a, Cn.tgN_a, Cn.bind_ok, Cn.bind_ex, Cn.rOut_ok, Cn.rOut_ex, List.map_cons, List.map_nil, List.length_cons, List.length_nil, List.cons_append, List.nil_append, List.replicate, List.set, List.getElem?_cons_zero, List.getElem?_cons_succ, Nat.reduceAdd, Nat.reduceSub, Cn.addD, Cn.subD, Cn.negD, Cn.notD, Cn.ltD, Cn.gtD, Cn.geD, Cn.leD, Cn.lenD, Cn.intD, Cn.listD, Cn.seqD, Cn.tupD, Cn.isi_ii, Cn.isi_ib, Cn.isi_bb, Cn.isi_ll, Cn.isi_tt, Cn.isi_ss, Cn.eqD_ii, Cn.neD_ii, Cn.eqD_ss, Cn.neD_ss, Cn.eqD_bb, Cn.neD_bb, decide_true, decide_false, Bool.not_true, Bool.not_false, decide_eq_false (show ¬ (a : Int) < 2 by omega), decide_eq_true (show (b : Int) < 2 by omega), m]
    · have n1 : ¬ (a : Int) < 2 := by omega
      have n2 : ¬ (b : Int) < 2 := by omega
      match k, hk, hn, ha, hb, wk with
      | 0, hk, hn, ha, hb, wk =>
        have : Nf.W 0 = 2 := rfl
        omega
      | k + 1, hk, hn, ha, hb, wk =>
        have wk' := W_le (show k ≤ 4 by omega)
        have wp := Nf.W_pos k
        have lo := lower_bs (show k ≤ 3 by omega)
        have ih := fun a b ha hb => product_ok k n a b (by omega) (by omega) ha hb
        by_cases hs : a < Nf.W k ∧ b < Nf.W k
        · have s1 : (a : Int) < ((bs (k + 1) : Nat) : Int) := by show (a : Int) < ((Nf.W k : Nat) : Int); omega
          have s2 : (b : Int) < ((bs (k + 1) : Nat) : Int) := by show (b : Int) < ((Nf.W k : Nat) : Int); omega
          simp only [Cn.runF_a, Cn.sSeq_a, Cn.sIf_a, Cn.sAsg_a, Cn.sOwn_a, Cn.sRet_a, Cn.sRetO_a, Cn.sNil_a, Cn.sRaise_a, Cn.sExpr_a, Cn.sFrz_a, Cn.sDrop_a, Cn.frz_a, Cn.sApp_a, Cn.sExt_a, Cn.sPut_a, Cn.sPutD_a, Cn.sFor_a, Cn.sWhile_a, Cn.eV_a, Cn.eO_a, Cn.eC_a, Cn.eOp_a, Cn.eUn_a, Cn.eAnd_a, Cn.eOr_a, Cn.eChain_a, Cn.eLst_a, Cn.eTup_a, Cn.eCall_a, Cn.eCallB_a, Cn.eSl_a, Cn.eComp_a, Cn.eYes_a, Cn.aNil_a, Cn.aCons_a, Cn.oNone_a, Cn.oSome_a, Cn.eDict1_a, Cn.iL_a, Cn.iT_a, Cn.iR1_a, Cn.iR2_a, Cn.iR3_a, Cn.tgN_a, Cn.bind_ok, Cn.bind_ex, Cn.rOut_ok, Cn.rOut_ex, List.map_cons, List.map_nil, List.length_cons, List.length_nil, List.cons_append, List.nil_append, List.replicate, List.set, List.getElem?_cons_zero, List.getElem?_cons_succ, Nat.reduceAdd, Nat.reduceSub, Cn.addD, Cn.subD, Cn.negD, Cn.notD, Cn.ltD, Cn.gtD, Cn.geD, Cn.leD, Cn.lenD, Cn.intD, Cn.listD, Cn.seqD, Cn.tupD, Cn.isi_ii, Cn.isi_ib, Cn.isi_bb, Cn.isi_ll, Cn.isi_tt, Cn.isi_ss, Cn.eqD_ii, Cn.neD_ii, Cn.eqD_ss, Cn.neD_ss, Cn.eqD_bb, Cn.neD_bb, decide_true, decide_false, Bool.not_true, Bool.not_false, decide_eq_false n1, decide_eq_false n2, lo, decide_eq_true s1, decide_eq_true s2, ih a b hs.1 hs.2, Nf.nim_low k a b hs.1 hs.2]
        · have sx : ¬ ((a : Int) < ((bs (k + 1) : Nat) : Int)) ∨ ((a : Int) < ((bs (k + 1) : Nat) : Int)) ∧ ¬ ((b : Int) < ((bs (k + 1) : Nat) : Int)) := by
            show ¬ ((a : Int) < ((Nf.W k : Nat) : Int)) ∨ ((a : Int) < ((Nf.W k : Nat) : Int)) ∧ ¬ ((b : Int) < ((Nf.W k : Nat) : Int))
            omega
          have hW := Nf.W_succ k
          have a1 : a / Nf.W k < Nf.W k := Nat.div_lt_of_lt_mul (by rw [← hW]; exact ha)
          have b1 : b / Nf.W k < Nf.W k := Nat.div_lt_of_lt_mul (by rw [← hW]; exact hb)
          have a0 : a % Nf.W k < Nf.W k := Nat.mod_lt _ wp
          have b0 : b % Nf.W k < Nf.W k := Nat.mod_lt _ wp
          have ax : a / Nf.W k ^^^ a % Nf.W k < Nf.W k := Nat.xor_lt_two_pow a1 a0
          have bx : b / Nf.W k ^^^ b % Nf.W k < Nf.W k := Nat.xor_lt_two_pow b1 b0
          have hd : Nf.W k / 2 < Nf.W k := by omega
          have wb : 0 < bs (k + 1) ∧ bs (k + 1) < 1073741824 := by show 0 < Nf.W k ∧ Nf.W k < 1073741824; omega
          have d1 := @fdivD_nat a (bs (k + 1)) wb
          have d2 := @fdivD_nat b (bs (k + 1)) wb
          have m1 := @modD_nat a (bs (k + 1)) wb.1
          have m2 := @modD_nat b (bs (k + 1)) wb.1
          have d3 : fdivD (.int ((bs (k + 1) : Nat) : Int)) (.int 2) = .ok (.int ((bs (k + 1) / 2 : Nat) : Int)) := @fdivD_nat (bs (k + 1)) 2 (by decide)
          have i1 := ih (a / bs (k + 1)) (b / bs (k + 1)) a1 b1
          have i2 := ih (a % bs (k + 1)) (b % bs (k + 1)) a0 b0
          have i3 := ih (a / bs (k + 1) ^^^ a % bs (k + 1)) (b / bs (k + 1) ^^^ b % bs (k + 1)) ax bx
          have i4 := ih (Nf.nim k (a / bs (k + 1)) (b / bs (k + 1))) (bs (k + 1) / 2) (Nf.nim_lt k _ _) hd
          have hm := @mulD_natr (Nf.nim k (a / bs (k + 1) ^^^ a % bs (k + 1)) (b / bs (k + 1) ^^^ b % bs (k + 1)) ^^^ Nf.nim k (a % bs (k + 1)) (b % bs (k + 1))) (bs (k + 1)) (by have := wb.2; omega)
          have nh : Nf.nim (k + 1) a b = (Nf.nim k (a / bs (k + 1) ^^^ a % bs (k + 1)) (b / bs (k + 1) ^^^ b % bs (k + 1)) ^^^ Nf.nim k (a % bs (k + 1)) (b % bs (k + 1))) * bs (k + 1) + (Nf.nim k (a % bs (k + 1)) (b % bs (k + 1)) ^^^ Nf.nim k (Nf.nim k (a / bs (k + 1)) (b / bs (k + 1))) (bs (k + 1) / 2)) := Nf.nim_halves k a b
          rw [nh]
          rcases sx with s1 | ⟨s1, s2⟩
          · simp only [Cn.runF_a, Cn.sSeq_a, Cn.sIf_a, Cn.sAsg_a, Cn.sOwn_a, Cn.sRet_a, Cn.sRetO_a, Cn.sNil_a, Cn.sRaise_a, Cn.sExpr_a, Cn.sFrz_a, Cn.sDrop_a, Cn.frz_a, Cn.sApp_a, Cn.sExt_a, Cn.sPut_a, Cn.sPutD_a, Cn.sFor_a, Cn.sWhile_a, Cn.eV_a, Cn.eO_a, Cn.eC_a, Cn.eOp_a, Cn.eUn_a, Cn.eAnd_a, Cn.eOr_a, Cn.eChain_a, Cn.eLst_a, Cn.eTup_a, Cn.eCall_a, Cn.eCallB_a, Cn.eSl_a, Cn.eComp_a, Cn.eYes_a, Cn.aNil_a, Cn.aCons_a, Cn.oNone_a, Cn.oSome_a, Cn.eDict1_a, Cn.iL_a, Cn.iT_a, Cn.iR1_a, Cn.iR2_a, Cn.iR3_a, Cn.tgN_a, Cn.bind_ok, Cn.bind_ex, Cn.rOut_ok, Cn.rOut_ex, List.map_cons, List.map_nil, List.length_cons, List.length_nil, List.cons_append, List.nil_append, List.replicate, List.set, List.getElem?_cons_zero, List.getElem?_cons_succ, Nat.reduceAdd, Nat.reduceSub, Cn.addD, Cn.subD, Cn.negD, Cn.notD, Cn.ltD, Cn.gtD, Cn.geD, Cn.leD, Cn.lenD, Cn.intD, Cn.listD, Cn.seqD, Cn.tupD, Cn.isi_ii, Cn.isi_ib, Cn.isi_bb, Cn.isi_ll, Cn.isi_tt, Cn.isi_ss, Cn.eqD_ii, Cn.neD_ii, Cn.eqD_ss, Cn.neD_ss, Cn.eqD_bb, Cn.neD_bb, decide_true, decide_false, Bool.not_true, Bool.not_false, decide_eq_false n1, decide_eq_false n2, lo, decide_eq_false s1, d1, d2, d3, m1, m2, i1, i2, xorD_nat, i3, i4, hm]
            rfl
          · simp only [Cn.runF_a, Cn.sSeq_a, Cn.sIf_a, Cn.sAsg_a, Cn.sOwn_a, Cn.sRet_a, Cn.sRetO_a, Cn.sNil_a, Cn.sRaise_a, Cn.sExpr_a, Cn.sFrz_a, Cn.sDrop_a, Cn.frz_a, Cn.sApp_a, Cn.sExt_a, Cn.sPut_a, Cn.sPutD_a, Cn.sFor_a, Cn.sWhile_a, Cn.eV_a, Cn.eO_a, Cn.eC_a, Cn.eOp_a, Cn.eUn_a, Cn.eAnd_a, Cn.eOr_a, Cn.eChain_a, Cn.eLst_a, Cn.eTup_a, Cn.eCall_a, Cn.eCallB_a, Cn.eSl_a, Cn.eComp_a, Cn.eYes_a, Cn.aNil_a, Cn.aCons_a, Cn.oNone_a, Cn.oSome_a, Cn.eDict1_a, Cn.iL_a, Cn.iT_a, Cn.iR1_a, Cn.iR2_a, Cn.iR3_a, Cn.tgN_a, Cn.bind_ok, Cn.bind_ex, Cn.rOut_ok, Cn.rOut_ex, List.map_cons, List.map_nil, List.length_cons, List.length_nil, List.cons_append, List.nil_append, List.replicate, List.set, List.getElem?_cons_zero, List.getElem?_cons_succ, Nat.reduceAdd, Nat.reduceSub, Cn.addD, Cn.subD, Cn.negD, Cn.notD, Cn.ltD, Cn.gtD, Cn.geD, Cn.leD, Cn.lenD, Cn.intD, Cn.listD, Cn.seqD, Cn.tupD, Cn.isi_ii, Cn.isi_ib, Cn.isi_bb, Cn.isi_ll, Cn.isi_tt, Cn.isi_ss, Cn.eqD_ii, Cn.neD_ii, Cn.eqD_ss, Cn.neD_ss, Cn.eqD_bb, Cn.neD_bb, decide_true, decide_false, Bool.not_true, Bool.not_false, decide_eq_false n1, decide_eq_false n2, lo, decide_eq_true s1, decide_eq_false s2, d1, d2, d3, m1, m2, i1, i2, xorD_nat, i3, i4, hm]
            rfl
theorem asked_ok {i : Int} (h : 0 ≤ i ∧ i < 65536) : fn_asked_number [.int i] = .ok .non := by
  unfold fn_asked_number b_asked_number
  simp only [Cn.runF_a, Cn.sSeq_a, Cn.sIf_a, Cn.sAsg_a, Cn.sOwn_a, Cn.sRet_a, Cn.sRetO_a, Cn.sNil_a, Cn.sRaise_a, Cn.sExpr_a, Cn.sFrz_a, Cn.sDrop_a, Cn.frz_a, Cn.sApp_a, Cn.sExt_a, Cn.sPut_a, Cn.sPutD_a, Cn.sFor_a, Cn.sWhile_a, Cn.eV_a, Cn.eO_a, Cn.eC_a, Cn.eOp_a, Cn.eUn_a, Cn.eAnd_a, Cn.eOr_a, Cn.eChain_a, Cn.eLst_a, Cn.eTup_a, Cn.eCall_a, Cn.eCallB_a, Cn.eSl_a, Cn.eComp_a, Cn.eYes_a, Cn.aNil_a, Cn.aCons_a, Cn.oNone_a, Cn.oSome_a, Cn.eDict1_a, Cn.iL_a, Cn.iT_a, Cn.iR1_a, Cn.iR2_a, Cn.iR3_a, Cn.tgN_a, Cn.bind_ok, Cn.bind_ex, Cn.rOut_ok, Cn.rOut_ex, List.map_cons, List.map_nil, List.length_cons, List.length_nil, List.cons_append, List.nil_append, List.replicate, List.set, List.getElem?_cons_zero, List.getElem?_cons_succ, Nat.reduceAdd, Nat.reduceSub, Cn.addD, Cn.subD, Cn.negD, Cn.notD, Cn.ltD, Cn.gtD, Cn.geD, Cn.leD, Cn.lenD, Cn.intD, Cn.listD, Cn.seqD, Cn.tupD, Cn.isi_ii, Cn.isi_ib, Cn.isi_bb, Cn.isi_ll, Cn.isi_tt, Cn.isi_ss, Cn.eqD_ii, Cn.neD_ii, Cn.eqD_ss, Cn.neD_ss, Cn.eqD_bb, Cn.neD_bb, decide_true, decide_false, Bool.not_true, Bool.not_false, decide_eq_false (show ¬ i < 0 by omega), decide_eq_false (show ¬ (65536 : Int) ≤ i by omega)]
theorem times_ok {a b : Nat} (ha : a < 65536) (hb : b < 65536) : fn_times [.int (a : Int), .int (b : Int)] = .ok (.int ((Nf.nim 4 a b : Nat) : Int)) := by
  unfold fn_times b_times
  have h1 := @asked_ok (a : Int) (by omega)
  have h2 := @asked_ok (b : Int) (by omega)
  have h3 : fn_product 6 [.int (a : Int), .int (b : Int), .int 256] = _ := product_ok 4 6 a b (by decide) (by decide) ha hb
  simp only [Cn.runF_a, Cn.sSeq_a, Cn.sIf_a, Cn.sAsg_a, Cn.sOwn_a, Cn.sRet_a, Cn.sRetO_a, Cn.sNil_a, Cn.sRaise_a, Cn.sExpr_a, Cn.sFrz_a, Cn.sDrop_a, Cn.frz_a, Cn.sApp_a, Cn.sExt_a, Cn.sPut_a, Cn.sPutD_a, Cn.sFor_a, Cn.sWhile_a, Cn.eV_a, Cn.eO_a, Cn.eC_a, Cn.eOp_a, Cn.eUn_a, Cn.eAnd_a, Cn.eOr_a, Cn.eChain_a, Cn.eLst_a, Cn.eTup_a, Cn.eCall_a, Cn.eCallB_a, Cn.eSl_a, Cn.eComp_a, Cn.eYes_a, Cn.aNil_a, Cn.aCons_a, Cn.oNone_a, Cn.oSome_a, Cn.eDict1_a, Cn.iL_a, Cn.iT_a, Cn.iR1_a, Cn.iR2_a, Cn.iR3_a, Cn.tgN_a, Cn.bind_ok, Cn.bind_ex, Cn.rOut_ok, Cn.rOut_ex, List.map_cons, List.map_nil, List.length_cons, List.length_nil, List.cons_append, List.nil_append, List.replicate, List.set, List.getElem?_cons_zero, List.getElem?_cons_succ, Nat.reduceAdd, Nat.reduceSub, Cn.addD, Cn.subD, Cn.negD, Cn.notD, Cn.ltD, Cn.gtD, Cn.geD, Cn.leD, Cn.lenD, Cn.intD, Cn.listD, Cn.seqD, Cn.tupD, Cn.isi_ii, Cn.isi_ib, Cn.isi_bb, Cn.isi_ll, Cn.isi_tt, Cn.isi_ss, Cn.eqD_ii, Cn.neD_ii, Cn.eqD_ss, Cn.neD_ss, Cn.eqD_bb, Cn.neD_bb, decide_true, decide_false, Bool.not_true, Bool.not_false, h1, h2, h3]
theorem times_int {a b : Int} (ha : 0 ≤ a ∧ a < 65536) (hb : 0 ≤ b ∧ b < 65536) : fn_times [.int a, .int b] = .ok (.int ((Nf.nim 4 a.toNat b.toNat : Nat) : Int)) := by
  have h := @times_ok a.toNat b.toNat (by omega) (by omega)
  rw [Int.toNat_of_nonneg ha.1, Int.toNat_of_nonneg hb.1] at h
  exact h
theorem mex_le_len : ∀ (n : Nat) (l : List Nat), (∀ k < n, k ∈ l) → n ≤ l.length
  | 0, l, _ => Nat.zero_le _
  | n + 1, l, h => by
    have h1 := h n (by omega)
    have h2 := mex_le_len n (l.erase n) fun k hk => (List.mem_erase_of_ne (by omega)).mpr (h k (by omega))
    rw [List.length_erase_of_mem h1] at h2
    have := List.length_pos_of_mem h1
    omega
theorem mexL_len (l : List Nat) : mexL l ≤ l.length := mex_le_len _ _ fun k hk => mexL_mem hk
theorem rgL_nat (n : Nat) : rgL 0 (n : Int) = (List.range n).map iN := by
  unfold rgL
  rw [show ((n : Int) - 0).toNat = n by omega]
  exact List.map_congr_left fun k _ => by rw [Int.zero_add]
theorem fold_loop {α β J : Type} {ga : D → En → Option En} {F : SFn} {enc : β → D} {st : α → J → En} {nxt : α → β → α} {P : Nat → α → Prop} {N : Nat} : ∀ (l : List β) (i : Nat) (a : α) (j : J), i + l.length ≤ N → P i a →
    (∀ (i : Nat) (a : α) (j : J) (b : β), i < N → b ∈ l → P i a → ∃ e j', ga (enc b) (st a j) = some e ∧ F e = .nx (st (nxt a b) j') ∧ P (i + 1) (nxt a b)) →
    ∃ j', forL ga F (l.map enc) (st a j) = .nx (st (l.foldl nxt a) j') ∧ P (i + l.length) (l.foldl nxt a)
  | [], i, a, j, _, hp, _ => ⟨j, rfl, hp⟩
  | b :: r, i, a, j, hN, hp, h => by
    rw [List.length_cons] at hN
    obtain ⟨e, j', h1, h2, h3⟩ := h i a j b (by omega) (List.mem_cons_self ..) hp
    obtain ⟨j2, h4, h5⟩ := fold_loop r (i + 1) (nxt a b) j' (by omega) h3 fun i a j b hi hb hp => h i a j b hi (List.mem_cons_of_mem _ hb) hp
    refine ⟨j2, ?_, ?_⟩
    · rw [List.map_cons, forL_cons, h1]
      dsimp only
      rw [h2]
      exact h4
    · rw [List.length_cons, List.foldl_cons, show i + (r.length + 1) = i + 1 + r.length by omega]
      exact h5
theorem xor_loop {ga : D → En → Option En} {F : SFn} {f : Nat → Nat} {st : Nat → Sl → En} (l : List Nat) (t : Nat) (s0 : Sl)
    (h : ∀ (t q : Nat) (s' : Sl), q ∈ l → ∃ e, ga (iN q) (st t s') = some e ∧ F e = .nx (st (t ^^^ f q) (.val (iN q)))) : ∃ s', forL ga F (l.map iN) (st t s0) = .nx (st (t ^^^ ovr f l) s') := by
  obtain ⟨j', h1, _⟩ := fold_loop (P := fun _ _ => True) (N := l.length) (enc := iN) (st := st) (nxt := fun t p => t ^^^ f p) l 0 t s0 (by omega) trivial fun i a j b _ hb _ => by
    obtain ⟨e, h1, h2⟩ := h a b j hb
    exact ⟨e, _, h1, h2, trivial⟩
  rw [ovr_from] at h1
  exact ⟨j', h1⟩
/-- a dict's keys by what is put into it -/
def dk (l : List Nat) (ks : List Int) : List Int := l.foldl (fun ks (n : Nat) => addK ks (n : Int)) ks
theorem mem_addK {ks : List Int} {k i : Int} : i ∈ addK ks k ↔ i ∈ ks ∨ i = k := by
  unfold addK
  split
  · rename_i h
    exact ⟨fun z => .inl z, fun z => by rcases z with z | rfl <;> assumption⟩
  · simp
theorem len_addK {ks : List Int} {k : Int} : (addK ks k).length ≤ ks.length + 1 := by
  unfold addK
  split
  · omega
  · rw [List.length_append, List.length_singleton]; omega
theorem mem_dk : ∀ (l : List Nat) (ks : List Int) (n : Nat), (n : Int) ∈ dk l ks ↔ n ∈ l ∨ (n : Int) ∈ ks
  | [], ks, n => by simp [dk]
  | a :: r, ks, n => by
    have := mem_dk r (addK ks (a : Int)) n
    show (n : Int) ∈ dk r (addK ks (a : Int)) ↔ _
    rw [this, mem_addK, List.mem_cons]
    have e : ((n : Int) = (a : Int)) ↔ n = a := by omega
    rw [e]
    constructor
    · rintro (h | h | h)
      · exact .inl (.inr h)
      · exact .inr h
      · exact .inl (.inl h)
    · rintro ((h | h) | h)
      · exact .inr (.inr h)
      · exact .inl h
      · exact .inr (.inl h)
structure RuleOk (r : D) (S : Nat → List (List Nat)) (B : Nat) : Prop where
  asked : fn_asked_rule [r] = .ok .non
  nodct : noDct r = true
  shp : ∀ p, p < B → fn_shapes [r, iN p] = .ok (nll (S p))
  shaped : ∀ p, p < B → Shaped S p
  small : ∀ p, p < B → (S p).length ≤ 1000
  bound : B ≤ 1000
section
variable {r : D} {S : Nat → List (List Nat)} {B : Nat}
theorem num1_low (K : RuleOk r S B) {p : Nat} (h : p < B) : num1 S p ≤ 1000 := by
  have := K.small p h
  have e := mexL_len ((S p).map fun s => ovr (fun q => (nums S p).getD q 0) s.dropLast)
  rw [List.length_map] at e
  unfold num1 stepN
  rw [nums_len]
  omega
theorem cut_last {l : List Nat} {p : Nat} (h : l = l.dropLast ++ [p]) : cutL (l.map iN) none (some (-1)) = l.dropLast.map iN := by
  generalize l.dropLast = i at h
  subst h
  unfold cutL
  have e1 : HT.sIx ((i ++ [p]).map iN).length 0 none = 0 := rfl
  have e2 : HT.sIx ((i ++ [p]).map iN).length ((i ++ [p]).map iN).length (some (-1)) = i.length := by
    rw [List.length_map, List.length_append, List.length_singleton]
    simp only [HT.sIx]
    split <;> omega
  rw [e1, e2, List.drop_zero, Nat.sub_zero, List.map_append, List.take_left' (by rw [List.length_map])]
def nb3 : SFn := (sAsg 6 (eOp xorD (eV 6) (eOp ixD (eO 2) (eV 7))))
def nb2 : SFn := (sSeq (sAsg 6 (eC (.int 0)))
    (sSeq (sFor (iL (eSl (eV 5) oNone (oSome (eUn negD (eC (.int 1)))))) (tgN 7) nb3)
    (sPutD 4 (eV 6))))
def nb1 : SFn := (sSeq (sOwn 4 (eC (.dct [])))
    (sSeq (sFor (iL (eCall fn_shapes (aCons (eV 0) (aCons (eV 3) aNil)))) (tgN 5) nb2)
    (sSeq (sAsg 6 (eC (.int 0)))
    (sSeq (sWhile 100000 (eOp inD (eV 6) (eO 4))
    (sAsg 6 (eOp addD (eV 6) (eC (.int 1)))))
    (sApp 2 (eV 6))))))
theorem seq_nl (l : List Nat) : seqD (nl l) = .ok (l.map iN) := rfl
theorem seq_nll (l : List (List Nat)) : seqD (nll l) = .ok (l.map nl) := rfl
theorem lt_LIM {n : Nat} (h : n < 1000000) : n < LIM := by rw [LIM_eq]; exact h
theorem nb2_turn {m0 p : Nat} {l : List Nat} {ks : List Int} {s : List Nat} {last : Nat} (hs : s = s.dropLast ++ [last]) (hq : ∀ q ∈ s.dropLast, q < l.length) (hk : ks.length < 5000) (s6 s7 : Sl) :
    ∃ s6' s7', nb2 [.val r, .val (iN m0), .own (nl l), .val (iN p), .own (.dct ks), .val (nl s), s6, s7] =
      .nx [.val r, .val (iN m0), .own (nl l), .val (iN p), .own (.dct (addK ks ((ovr (fun q => l.getD q 0) s.dropLast : Nat) : Int))), .val (nl s), s6', s7'] := by
  have hc := cut_last hs
  obtain ⟨s', h⟩ := xor_loop (ga := tgN 7) (F := nb3) (f := fun q => l.getD q 0) (st := fun t x => [.val r, .val (iN m0), .own (nl l), .val (iN p), .own (.dct ks), .val (nl s), .val (iN t), x]) s.dropLast 0 s7 fun t q s' hm => by
    refine ⟨_, rfl, ?_⟩
    unfold nb3
    simp only [Cn.runF_a, Cn.sSeq_a, Cn.sIf_a, Cn.sAsg_a, Cn.sOwn_a, Cn.sRet_a, Cn.sRetO_a, Cn.sNil_a, Cn.sRaise_a, Cn.sExpr_a, Cn.sFrz_a, Cn.sDrop_a, Cn.frz_a, Cn.sApp_a, Cn.sExt_a, Cn.sPut_a, Cn.sPutD_a, Cn.sFor_a, Cn.sWhile_a, Cn.eV_a, Cn.eO_a, Cn.eC_a, Cn.eOp_a, Cn.eUn_a, Cn.eAnd_a, Cn.eOr_a, Cn.eChain_a, Cn.eLst_a, Cn.eTup_a, Cn.eCall_a, Cn.eCallB_a, Cn.eSl_a, Cn.eComp_a, Cn.eYes_a, Cn.aNil_a, Cn.aCons_a, Cn.oNone_a, Cn.oSome_a, Cn.eDict1_a, Cn.iL_a, Cn.iT_a, Cn.iR1_a, Cn.iR2_a, Cn.iR3_a, Cn.tgN_a, Cn.bind_ok, Cn.bind_ex, Cn.rOut_ok, Cn.rOut_ex, List.map_cons, List.map_nil, List.length_cons, List.length_nil, List.cons_append, List.nil_append, List.replicate, List.set, List.getElem?_cons_zero, List.getElem?_cons_succ, Nat.reduceAdd, Nat.reduceSub, Cn.addD, Cn.subD, Cn.negD, Cn.notD, Cn.ltD, Cn.gtD, Cn.geD, Cn.leD, Cn.lenD, Cn.intD, Cn.listD, Cn.seqD, Cn.tupD, Cn.isi_ii, Cn.isi_ib, Cn.isi_bb, Cn.isi_ll, Cn.isi_tt, Cn.isi_ss, Cn.eqD_ii, Cn.neD_ii, Cn.eqD_ss, Cn.neD_ss, Cn.eqD_bb, Cn.neD_bb, decide_true, decide_false, Bool.not_true, Bool.not_false, ix_nl (hq q hm), xor_iN]
  refine ⟨.val (iN (ovr (fun q => l.getD q 0) s.dropLast)), s', ?_⟩
  rw [Nat.zero_xor] at h
  have h' : forL (tgN 7) nb3 (s.dropLast.map iN) [.val r, .val (iN m0), .own (nl l), .val (iN p), .own (.dct ks), .val (nl s), .val (.int 0), s7] = _ := h
  unfold nb2
  simp only [Cn.runF_a, Cn.sSeq_a, Cn.sIf_a, Cn.sAsg_a, Cn.sOwn_a, Cn.sRet_a, Cn.sRetO_a, Cn.sNil_a, Cn.sRaise_a, Cn.sExpr_a, Cn.sFrz_a, Cn.sDrop_a, Cn.frz_a, Cn.sApp_a, Cn.sExt_a, Cn.sPut_a, Cn.sPutD_a, Cn.sFor_a, Cn.sWhile_a, Cn.eV_a, Cn.eO_a, Cn.eC_a, Cn.eOp_a, Cn.eUn_a, Cn.eAnd_a, Cn.eOr_a, Cn.eChain_a, Cn.eLst_a, Cn.eTup_a, Cn.eCall_a, Cn.eCallB_a, Cn.eSl_a, Cn.eComp_a, Cn.eYes_a, Cn.aNil_a, Cn.aCons_a, Cn.oNone_a, Cn.oSome_a, Cn.eDict1_a, Cn.iL_a, Cn.iT_a, Cn.iR1_a, Cn.iR2_a, Cn.iR3_a, Cn.tgN_a, Cn.bind_ok, Cn.bind_ex, Cn.rOut_ok, Cn.rOut_ex, List.map_cons, List.map_nil, List.length_cons, List.length_nil, List.cons_append, List.nil_append, List.replicate, List.set, List.getElem?_cons_zero, List.getElem?_cons_succ, Nat.reduceAdd, Nat.reduceSub, Cn.addD, Cn.subD, Cn.negD, Cn.notD, Cn.ltD, Cn.gtD, Cn.geD, Cn.leD, Cn.lenD, Cn.intD, Cn.listD, Cn.seqD, Cn.tupD, Cn.isi_ii, Cn.isi_ib, Cn.isi_bb, Cn.isi_ll, Cn.isi_tt, Cn.isi_ss, Cn.eqD_ii, Cn.neD_ii, Cn.eqD_ss, Cn.neD_ss, Cn.eqD_bb, Cn.neD_bb, decide_true, decide_false, Bool.not_true, Bool.not_false, hc, h', if_pos (lt_LIM (show ks.length < 1000000 by omega))]
theorem nb1_turn (K : RuleOk r S B) {m0 p : Nat} (hp : p < B) (s3 s4 s5 s6 s7 : Sl) :
    ∃ s4' s5' s6' s7', nb1 [.val r, .val (iN m0), .own (nl (nums S p)), .val (iN p), s4, s5, s6, s7] =
      .nx [.val r, .val (iN m0), .own (nl (nums S (p + 1))), .val (iN p), s4', s5', s6', s7'] := by
  have hsh := K.shaped p hp
  have hsm := K.small p hp
  obtain ⟨j', h1, h2⟩ := fold_loop (ga := tgN 5) (F := nb2) (J := Sl × Sl × Sl) (P := fun i ks => ks.length ≤ i) (N := 1000) (enc := nl)
    (st := fun (ks : List Int) j => [.val r, .val (iN m0), .own (nl (nums S p)), .val (iN p), .own (.dct ks), j.1, j.2.1, j.2.2])
    (nxt := fun ks s => addK ks ((ovr (fun q => (nums S p).getD q 0) s.dropLast : Nat) : Int)) (S p) 0 [] (s5, s6, s7) (by omega) (Nat.le_refl 0) fun i ks j s hi hb hP => by
      obtain ⟨s6', s7', e⟩ := nb2_turn (r := r) (m0 := m0) (p := p) (l := nums S p) (ks := ks) (hsh s hb).1 (fun q hq => by rw [nums_len]; exact (hsh s hb).2 q hq) (by omega) j.2.1 j.2.2
      exact ⟨_, (.val (nl s), s6', s7'), rfl, e, Nat.le_trans len_addK (by omega)⟩
  have hd : (S p).foldl (fun ks s => addK ks ((ovr (fun q => (nums S p).getD q 0) s.dropLast : Nat) : Int)) [] = dk ((S p).map fun s => ovr (fun q => (nums S p).getD q 0) s.dropLast) [] := by
    unfold dk
    rw [List.foldl_map]
  rw [hd] at h1
  generalize hv : ((S p).map fun s => ovr (fun q => (nums S p).getD q 0) s.dropLast) = vs at h1
  have hlen : vs.length ≤ 1000 := by rw [← hv, List.length_map]; exact hsm
  have hstep : nums S (p + 1) = nums S p ++ [mexL vs] := by
    show nums S p ++ [stepN S (nums S p)] = _
    unfold stepN
    rw [nums_len, hv]
  have hm := mexL_len vs
  have W := whileF_mex (f := eOp inD (eV 6) (eO 4)) (F := sAsg 6 (eOp addD (eV 6) (eC (.int 1)))) (l := vs) (st := fun n => [.val r, .val (iN m0), .own (nl (nums S p)), .val (iN p), .own (.dct (dk vs [])), j'.1, .val (iN n), j'.2.2])
    (fun n => by
      have e : inD (iN n) (.dct (dk vs [])) = .ok (.bl (decide (n ∈ vs))) := by
        simp only [inD, inB]
        congr 2
        exact decide_eq_decide.mpr (by rw [mem_dk]; simp)
      simp only [Cn.runF_a, Cn.sSeq_a, Cn.sIf_a, Cn.sAsg_a, Cn.sOwn_a, Cn.sRet_a, Cn.sRetO_a, Cn.sNil_a, Cn.sRaise_a, Cn.sExpr_a, Cn.sFrz_a, Cn.sDrop_a, Cn.frz_a, Cn.sApp_a, Cn.sExt_a, Cn.sPut_a, Cn.sPutD_a, Cn.sFor_a, Cn.sWhile_a, Cn.eV_a, Cn.eO_a, Cn.eC_a, Cn.eOp_a, Cn.eUn_a, Cn.eAnd_a, Cn.eOr_a, Cn.eChain_a, Cn.eLst_a, Cn.eTup_a, Cn.eCall_a, Cn.eCallB_a, Cn.eSl_a, Cn.eComp_a, Cn.eYes_a, Cn.aNil_a, Cn.aCons_a, Cn.oNone_a, Cn.oSome_a, Cn.eDict1_a, Cn.iL_a, Cn.iT_a, Cn.iR1_a, Cn.iR2_a, Cn.iR3_a, Cn.tgN_a, Cn.bind_ok, Cn.bind_ex, Cn.rOut_ok, Cn.rOut_ex, List.map_cons, List.map_nil, List.length_cons, List.length_nil, List.cons_append, List.nil_append, List.replicate, List.set, List.getElem?_cons_zero, List.getElem?_cons_succ, Nat.reduceAdd, Nat.reduceSub, Cn.addD, Cn.subD, Cn.negD, Cn.notD, Cn.ltD, Cn.gtD, Cn.geD, Cn.leD, Cn.lenD, Cn.intD, Cn.listD, Cn.seqD, Cn.tupD, Cn.isi_ii, Cn.isi_ib, Cn.isi_bb, Cn.isi_ll, Cn.isi_tt, Cn.isi_ss, Cn.eqD_ii, Cn.neD_ii, Cn.eqD_ss, Cn.neD_ss, Cn.eqD_bb, Cn.neD_bb, decide_true, decide_false, Bool.not_true, Bool.not_false, e]) (fun n => by simp only [Cn.runF_a, Cn.sSeq_a, Cn.sIf_a, Cn.sAsg_a, Cn.sOwn_a, Cn.sRet_a, Cn.sRetO_a, Cn.sNil_a, Cn.sRaise_a, Cn.sExpr_a, Cn.sFrz_a, Cn.sDrop_a, Cn.frz_a, Cn.sApp_a, Cn.sExt_a, Cn.sPut_a, Cn.sPutD_a, Cn.sFor_a, Cn.sWhile_a, Cn.eV_a, Cn.eO_a, Cn.eC_a, Cn.eOp_a, Cn.eUn_a, Cn.eAnd_a, Cn.eOr_a, Cn.eChain_a, Cn.eLst_a, Cn.eTup_a, Cn.eCall_a, Cn.eCallB_a, Cn.eSl_a, Cn.eComp_a, Cn.eYes_a, Cn.aNil_a, Cn.aCons_a, Cn.oNone_a, Cn.oSome_a, Cn.eDict1_a, Cn.iL_a, Cn.iT_a, Cn.iR1_a, Cn.iR2_a, Cn.iR3_a, Cn.tgN_a, Cn.bind_ok, Cn.bind_ex, Cn.rOut_ok, Cn.rOut_ex, List.map_cons, List.map_nil, List.length_cons, List.length_nil, List.cons_append, List.nil_append, List.replicate, List.set, List.getElem?_cons_zero, List.getElem?_cons_succ, Nat.reduceAdd, Nat.reduceSub, Cn.addD, Cn.subD, Cn.negD, Cn.notD, Cn.ltD, Cn.gtD, Cn.geD, Cn.leD, Cn.lenD, Cn.intD, Cn.listD, Cn.seqD, Cn.tupD, Cn.isi_ii, Cn.isi_ib, Cn.isi_bb, Cn.isi_ll, Cn.isi_tt, Cn.isi_ss, Cn.eqD_ii, Cn.neD_ii, Cn.eqD_ss, Cn.neD_ss, Cn.eqD_bb, Cn.neD_bb, decide_true, decide_false, Bool.not_true, Bool.not_false]; rfl) 100000 0 (Nat.zero_le _) (by omega)
  have W' : whileF (eOp inD (eV 6) (eO 4)) (sAsg 6 (eOp addD (eV 6) (eC (.int 1)))) 100000 [.val r, .val (iN m0), .own (nl (nums S p)), .val (iN p), .own (.dct (dk vs [])), j'.1, .val (.int 0), j'.2.2] = _ := W
  have hfl : (nums S p).length < 1000000 := by rw [nums_len]; have := K.small p hp; exact Nat.lt_of_lt_of_le hp (by have := K.bound; omega)
  refine ⟨.own (.dct (dk vs [])), j'.1, .val (iN (mexL vs)), j'.2.2, ?_⟩
  unfold nb1
  simp only [Cn.runF_a, Cn.sSeq_a, Cn.sIf_a, Cn.sAsg_a, Cn.sOwn_a, Cn.sRet_a, Cn.sRetO_a, Cn.sNil_a, Cn.sRaise_a, Cn.sExpr_a, Cn.sFrz_a, Cn.sDrop_a, Cn.frz_a, Cn.sApp_a, Cn.sExt_a, Cn.sPut_a, Cn.sPutD_a, Cn.sFor_a, Cn.sWhile_a, Cn.eV_a, Cn.eO_a, Cn.eC_a, Cn.eOp_a, Cn.eUn_a, Cn.eAnd_a, Cn.eOr_a, Cn.eChain_a, Cn.eLst_a, Cn.eTup_a, Cn.eCall_a, Cn.eCallB_a, Cn.eSl_a, Cn.eComp_a, Cn.eYes_a, Cn.aNil_a, Cn.aCons_a, Cn.oNone_a, Cn.oSome_a, Cn.eDict1_a, Cn.iL_a, Cn.iT_a, Cn.iR1_a, Cn.iR2_a, Cn.iR3_a, Cn.tgN_a, Cn.bind_ok, Cn.bind_ex, Cn.rOut_ok, Cn.rOut_ex, List.map_cons, List.map_nil, List.length_cons, List.length_nil, List.cons_append, List.nil_append, List.replicate, List.set, List.getElem?_cons_zero, List.getElem?_cons_succ, Nat.reduceAdd, Nat.reduceSub, Cn.addD, Cn.subD, Cn.negD, Cn.notD, Cn.ltD, Cn.gtD, Cn.geD, Cn.leD, Cn.lenD, Cn.intD, Cn.listD, Cn.seqD, Cn.tupD, Cn.isi_ii, Cn.isi_ib, Cn.isi_bb, Cn.isi_ll, Cn.isi_tt, Cn.isi_ss, Cn.eqD_ii, Cn.neD_ii, Cn.eqD_ss, Cn.neD_ss, Cn.eqD_bb, Cn.neD_bb, decide_true, decide_false, Bool.not_true, Bool.not_false, K.shp p hp, seq_nll, h1, W', List.length_map, if_pos (lt_LIM hfl)]
  have hn : nl (nums S (p + 1)) = .lst ((nums S p).map iN ++ [iN (mexL vs)]) := by rw [hstep]; show D.lst ((nums S p ++ [mexL vs]).map iN) = _; rw [List.map_append]; rfl
  rw [hn]
theorem numbers_loop (K : RuleOk r S B) {m : Nat} (hm : m < B) : ∃ s3 s4 s5 s6 s7, forL (tgN 3) nb1 (rgL 0 ((m : Int) + 1)) [.val r, .val (iN m), .own (.lst []), .no, .no, .no, .no, .no] =
    .nx [.val r, .val (iN m), .own (nl (nums S (m + 1))), s3, s4, s5, s6, s7] := by
  obtain ⟨j', h⟩ := forL_ix (J := Sl × Sl × Sl × Sl × Sl) (ga := tgN 3) (F := nb1) ((List.range (m + 1)).map iN)
    (fun i j => [.val r, .val (iN m), .own (nl (nums S i)), j.1, j.2.1, j.2.2.1, j.2.2.2.1, j.2.2.2.2]) (.no, .no, .no, .no, .no) fun i hi j => by
      rw [List.length_map, List.length_range] at hi
      obtain ⟨s4, s5, s6, s7, e⟩ := nb1_turn K (m0 := m) (show i < B by omega) j.1 j.2.1 j.2.2.1 j.2.2.2.1 j.2.2.2.2
      refine ⟨[.val r, .val (iN m), .own (nl (nums S i)), .val (iN i), j.2.1, j.2.2.1, j.2.2.2.1, j.2.2.2.2], (.val (iN i), s4, s5, s6, s7), ?_, e⟩
      simp only [List.getElem_map, List.getElem_range, tgN_a, List.set]
  rw [List.length_map, List.length_range, ← rgL_nat, show ((m + 1 : Nat) : Int) = (m : Int) + 1 by omega] at h
  exact ⟨_, _, _, _, _, h⟩
theorem b_numbers_eq : b_numbers = (sSeq (sOwn 2 (eLst aNil)) (sSeq (sFor (iR1 (eOp addD (eV 1) (eC (.int 1)))) (tgN 3) nb1) (sRetO 2))) := by
  unfold b_numbers nb1 nb2 nb3
  rfl
theorem numbers_ok (K : RuleOk r S B) {m : Nat} (hm : m < B) : fn_numbers [r, iN m] = .ok (nl (nums S (m + 1))) := by
  have hB := K.bound
  obtain ⟨s3, s4, s5, s6, s7, h⟩ := numbers_loop K hm
  have hr := rg1_ok (show -1000000 ≤ (m : Int) + 1 ∧ (m : Int) + 1 ≤ 1000000 by omega)
  unfold fn_numbers
  rw [b_numbers_eq]
  simp only [Cn.runF_a, Cn.sSeq_a, Cn.sIf_a, Cn.sAsg_a, Cn.sOwn_a, Cn.sRet_a, Cn.sRetO_a, Cn.sNil_a, Cn.sRaise_a, Cn.sExpr_a, Cn.sFrz_a, Cn.sDrop_a, Cn.frz_a, Cn.sApp_a, Cn.sExt_a, Cn.sPut_a, Cn.sPutD_a, Cn.sFor_a, Cn.sWhile_a, Cn.eV_a, Cn.eO_a, Cn.eC_a, Cn.eOp_a, Cn.eUn_a, Cn.eAnd_a, Cn.eOr_a, Cn.eChain_a, Cn.eLst_a, Cn.eTup_a, Cn.eCall_a, Cn.eCallB_a, Cn.eSl_a, Cn.eComp_a, Cn.eYes_a, Cn.aNil_a, Cn.aCons_a, Cn.oNone_a, Cn.oSome_a, Cn.eDict1_a, Cn.iL_a, Cn.iT_a, Cn.iR1_a, Cn.iR2_a, Cn.iR3_a, Cn.tgN_a, Cn.bind_ok, Cn.bind_ex, Cn.rOut_ok, Cn.rOut_ex, List.map_cons, List.map_nil, List.length_cons, List.length_nil, List.cons_append, List.nil_append, List.replicate, List.set, List.getElem?_cons_zero, List.getElem?_cons_succ, Nat.reduceAdd, Nat.reduceSub, Cn.addD, Cn.subD, Cn.negD, Cn.notD, Cn.ltD, Cn.gtD, Cn.geD, Cn.leD, Cn.lenD, Cn.intD, Cn.listD, Cn.seqD, Cn.tupD, Cn.isi_ii, Cn.isi_ib, Cn.isi_bb, Cn.isi_ll, Cn.isi_tt, Cn.isi_ss, Cn.eqD_ii, Cn.neD_ii, Cn.eqD_ss, Cn.neD_ss, Cn.eqD_bb, Cn.neD_bb, decide_true, decide_false, Bool.not_true, Bool.not_false, hr, h]
end
theorem maxI_nat : ∀ (l : List Nat) (m : Nat), ∃ M : Nat, maxI (m : Int) (l.map fun n : Nat => (n : Int)) = (M : Int) ∧ m ≤ M ∧ (∀ q ∈ l, q ≤ M) ∧ (M = m ∨ M ∈ l)
  | [], m => ⟨m, rfl, Nat.le_refl m, (fun q hq => by cases hq), .inl rfl⟩
  | a :: r, m => by
    rw [List.map_cons]
    unfold maxI
    by_cases h : m < a
    · rw [if_pos (show (a : Int) > (m : Int) by omega)]
      obtain ⟨M, h1, h2, h3, h4⟩ := maxI_nat r a
      refine ⟨M, h1, by omega, fun q hq => ?_, ?_⟩
      · rcases List.mem_cons.mp hq with rfl | hq
        · exact h2
        · exact h3 q hq
      · rcases h4 with rfl | h4
        · exact .inr (List.mem_cons_self ..)
        · exact .inr (List.mem_cons_of_mem _ h4)
    · rw [if_neg (show ¬ (a : Int) > (m : Int) by omega)]
      obtain ⟨M, h1, h2, h3, h4⟩ := maxI_nat r m
      refine ⟨M, h1, h2, fun q hq => ?_, ?_⟩
      · rcases List.mem_cons.mp hq with rfl | hq
        · omega
        · exact h3 q hq
      · rcases h4 with rfl | h4
        · exact .inl rfl
        · exact .inr (List.mem_cons_of_mem _ h4)
theorem toInts_nat (l : List Nat) : toInts (l.map iN) = some (l.map fun n : Nat => (n : Int)) := by
  have : l.map iN = (l.map fun n : Nat => (n : Int)).map D.int := by rw [List.map_map]; rfl
  rw [this, toInts_map]
theorem max_ok (l : List Nat) : ∃ M : Nat, maxD (.lst (.int 0 :: l.map iN)) = .ok (iN M) ∧ (∀ q ∈ l, q ≤ M) ∧ (M = 0 ∨ M ∈ l) := by
  obtain ⟨M, h1, _, h3, h4⟩ := maxI_nat l 0
  refine ⟨M, ?_, h3, h4⟩
  have e : toInts (.int 0 :: l.map iN) = some (0 :: l.map fun n : Nat => (n : Int)) := by
    show (toInts (l.map iN)).map _ = _
    rw [toInts_nat]; rfl
  have h1' : maxI 0 (l.map fun n : Nat => (n : Int)) = (M : Int) := h1
  simp only [maxD, e, h1']
theorem over_ok {l s : List Nat} (h : ∀ q ∈ s, q < l.length) : fn_over [nl l, nl s] = .ok (iN (ovr (fun q => l.getD q 0) s)) := by
  obtain ⟨s', e⟩ := xor_loop (ga := tgN 3) (F := (sAsg 2 (eOp xorD (eV 2) (eOp ixD (eV 0) (eV 3))))) (f := fun q => l.getD q 0) (st := fun t x => [.val (nl l), .val (nl s), .val (iN t), x]) s 0 .no fun t q s' hm => by
    refine ⟨_, rfl, ?_⟩
    simp only [Cn.runF_a, Cn.sSeq_a, Cn.sIf_a, Cn.sAsg_a, Cn.sOwn_a, Cn.sRet_a, Cn.sRetO_a, Cn.sNil_a, Cn.sRaise_a, Cn.sExpr_a, Cn.sFrz_a, Cn.sDrop_a, Cn.frz_a, Cn.sApp_a, Cn.sExt_a, Cn.sPut_a, Cn.sPutD_a, Cn.sFor_a, Cn.sWhile_a, Cn.eV_a, Cn.eO_a, Cn.eC_a, Cn.eOp_a, Cn.eUn_a, Cn.eAnd_a, Cn.eOr_a, Cn.eChain_a, Cn.eLst_a, Cn.eTup_a, Cn.eCall_a, Cn.eCallB_a, Cn.eSl_a, Cn.eComp_a, Cn.eYes_a, Cn.aNil_a, Cn.aCons_a, Cn.oNone_a, Cn.oSome_a, Cn.eDict1_a, Cn.iL_a, Cn.iT_a, Cn.iR1_a, Cn.iR2_a, Cn.iR3_a, Cn.tgN_a, Cn.bind_ok, Cn.bind_ex, Cn.rOut_ok, Cn.rOut_ex, List.map_cons, List.map_nil, List.length_cons, List.length_nil, List.cons_append, List.nil_append, List.replicate, List.set, List.getElem?_cons_zero, List.getElem?_cons_succ, Nat.reduceAdd, Nat.reduceSub, Cn.addD, Cn.subD, Cn.negD, Cn.notD, Cn.ltD, Cn.gtD, Cn.geD, Cn.leD, Cn.lenD, Cn.intD, Cn.listD, Cn.seqD, Cn.tupD, Cn.isi_ii, Cn.isi_ib, Cn.isi_bb, Cn.isi_ll, Cn.isi_tt, Cn.isi_ss, Cn.eqD_ii, Cn.neD_ii, Cn.eqD_ss, Cn.neD_ss, Cn.eqD_bb, Cn.neD_bb, decide_true, decide_false, Bool.not_true, Bool.not_false, ix_nl (h q hm), xor_iN]
  rw [Nat.zero_xor] at e
  have e' : forL (tgN 3) (sAsg 2 (eOp xorD (eV 2) (eOp ixD (eV 0) (eV 3)))) (s.map iN) [.val (nl l), .val (nl s), .val (.int 0), .no] = _ := e
  unfold fn_over b_over
  simp only [Cn.runF_a, Cn.sSeq_a, Cn.sIf_a, Cn.sAsg_a, Cn.sOwn_a, Cn.sRet_a, Cn.sRetO_a, Cn.sNil_a, Cn.sRaise_a, Cn.sExpr_a, Cn.sFrz_a, Cn.sDrop_a, Cn.frz_a, Cn.sApp_a, Cn.sExt_a, Cn.sPut_a, Cn.sPutD_a, Cn.sFor_a, Cn.sWhile_a, Cn.eV_a, Cn.eO_a, Cn.eC_a, Cn.eOp_a, Cn.eUn_a, Cn.eAnd_a, Cn.eOr_a, Cn.eChain_a, Cn.eLst_a, Cn.eTup_a, Cn.eCall_a, Cn.eCallB_a, Cn.eSl_a, Cn.eComp_a, Cn.eYes_a, Cn.aNil_a, Cn.aCons_a, Cn.oNone_a, Cn.oSome_a, Cn.eDict1_a, Cn.iL_a, Cn.iT_a, Cn.iR1_a, Cn.iR2_a, Cn.iR3_a, Cn.tgN_a, Cn.bind_ok, Cn.bind_ex, Cn.rOut_ok, Cn.rOut_ex, List.map_cons, List.map_nil, List.length_cons, List.length_nil, List.cons_append, List.nil_append, List.replicate, List.set, List.getElem?_cons_zero, List.getElem?_cons_succ, Nat.reduceAdd, Nat.reduceSub, Cn.addD, Cn.subD, Cn.negD, Cn.notD, Cn.ltD, Cn.gtD, Cn.geD, Cn.leD, Cn.lenD, Cn.intD, Cn.listD, Cn.seqD, Cn.tupD, Cn.isi_ii, Cn.isi_ib, Cn.isi_bb, Cn.isi_ll, Cn.isi_tt, Cn.isi_ss, Cn.eqD_ii, Cn.neD_ii, Cn.eqD_ss, Cn.neD_ss, Cn.eqD_bb, Cn.neD_bb, decide_true, decide_false, Bool.not_true, Bool.not_false, seq_nl, e']
section
variable {r : D} {S : Nat → List (List Nat)} {B : Nat}
theorem over_nums {n : Nat} {s : List Nat} (h : ∀ q ∈ s, q < n) : fn_over [nl (nums S n), nl s] = .ok (iN (ovr (num1 S) s)) := by
  rw [over_ok (fun q hq => by rw [nums_len]; exact h q hq)]
  rw [ovr_congr fun q hq => nums_get S (h q hq)]
end
/-- a place of a board by one number: 16 times x and y -/
abbrev pr (c : Nat) : D := .tup [iN (c / 16), iN (c % 16)]
abbrev bd (l : List Nat) : D := .lst (l.map pr)
def RiseB : Int → List Nat → Prop
  | _, [] => True
  | b, a :: r => b < (a : Int) ∧ a < 256 ∧ RiseB (a : Int) r
theorem le_pr (a : Nat) (b : Int) : leD (pr a) (.tup [.int (b / 16), .int (b % 16)]) = .ok (.bl (decide ((a : Int) ≤ b))) := by
  show R.ok (D.bl (if ((a / 16 : Nat) : Int) = b / 16 then decide (((a % 16 : Nat) : Int) ≤ b % 16) else decide (((a / 16 : Nat) : Int) ≤ b / 16))) = _
  congr 2
  split
  · exact decide_eq_decide.mpr (by omega)
  · exact decide_eq_decide.mpr (by omega)
theorem px (c : Nat) : ixD (pr c) (.int 0) = .ok (iN (c / 16)) := rfl
theorem py (c : Nat) : ixD (pr c) (.int 1) = .ok (iN (c % 16)) := rfl
theorem seq_bd (l : List Nat) : seqD (bd l) = .ok (l.map pr) := rfl
def ab1 : SFn := (sSeq (sIf (eOr (eOp ltD (eOp ixD (eV 2) (eC (.int 0))) (eC (.int 0))) (eOr (eOp geD (eOp ixD (eV 2) (eC (.int 0))) (eC (.int 16))) (eOr (eOp ltD (eOp ixD (eV 2) (eC (.int 1))) (eC (.int 0))) (eOr (eOp geD (eOp ixD (eV 2) (eC (.int 1))) (eC (.int 16))) (eOp leD (eV 2) (eV 1))))))
    (sRaise "NoBoard")
    sNil)
    (sAsg 1 (eV 2)))
theorem ab1_turn (h0 : D) (a : Nat) (b : Int) (hb : b < (a : Int)) (ha : a < 256) : ab1 [.val h0, .val (.tup [.int (b / 16), .int (b % 16)]), .val (pr a)] = .nx [.val h0, .val (.tup [.int ((a : Int) / 16), .int ((a : Int) % 16)]), .val (pr a)] := by
  have hle := le_pr a b
  rw [decide_eq_false (show ¬ (a : Int) ≤ b by omega)] at hle
  have e1 : iN (a / 16) = .int ((a : Int) / 16) := by show D.int _ = D.int _; congr 1
  have e2 : iN (a % 16) = .int ((a : Int) % 16) := by show D.int _ = D.int _; congr 1
  have q1 : leD (.tup [.int ((a / 16 : Nat) : Int), .int ((a % 16 : Nat) : Int)]) (.tup [.int (b / 16), .int (b % 16)]) = .ok (.bl false) := hle
  have h16 : ((a / 16 : Nat) : Int) < 16 := by omega
  have h16' : ((a % 16 : Nat) : Int) < 16 := by omega
  unfold ab1
  simp only [sSeq_a, sIf_a, eOr_a, eOp_a, eV_a, eC_a, sAsg_a, List.getElem?_cons_zero, List.getElem?_cons_succ, bind_ok, px, py, ltD, geD, decide_eq_false (show ¬ ((a / 16 : Nat) : Int) < 0 by omega), decide_eq_false (show ¬ ((a % 16 : Nat) : Int) < 0 by omega), decide_eq_false (show ¬ (16 : Int) ≤ ((a / 16 : Nat) : Int) by omega), decide_eq_false (show ¬ (16 : Int) ≤ ((a % 16 : Nat) : Int) by omega), q1, rOut_ok, sNil_a, List.set]
  rw [← e1, ← e2]
theorem ab_loop (h0 : D) : ∀ (l : List Nat) (b : Int) (s : Sl), RiseB b l → ∃ b' s', forL (tgN 2) ab1 (l.map pr) [.val h0, .val (.tup [.int (b / 16), .int (b % 16)]), s] = .nx [.val h0, b', s']
  | [], b, s, _ => ⟨_, s, rfl⟩
  | a :: r, b, s, h => by
    obtain ⟨b', s', e⟩ := ab_loop h0 r (a : Int) (.val (pr a)) h.2.2
    refine ⟨b', s', ?_⟩
    have ht := ab1_turn h0 a b h.1 h.2.1
    rw [List.map_cons, forL_cons]
    simp only [tgN_a, List.set]
    rw [ht]
    exact e
theorem asked_board_ok {l : List Nat} (h : RiseB (-16) l) : fn_asked_board [bd l] = .ok .non := by
  obtain ⟨b', s', e⟩ := ab_loop (bd l) l (-16) .no h
  have e' : forL (tgN 2) ab1 (l.map pr) [.val (bd l), .val (.tup [.int (-1), .int 0]), .no] = .nx [.val (bd l), b', s'] := e
  unfold ab1 at e'
  unfold fn_asked_board b_asked_board
  simp only [Cn.runF_a, Cn.sSeq_a, Cn.sIf_a, Cn.sAsg_a, Cn.sOwn_a, Cn.sRet_a, Cn.sRetO_a, Cn.sNil_a, Cn.sRaise_a, Cn.sExpr_a, Cn.sFrz_a, Cn.sDrop_a, Cn.frz_a, Cn.sApp_a, Cn.sExt_a, Cn.sPut_a, Cn.sPutD_a, Cn.sFor_a, Cn.sWhile_a, Cn.eV_a, Cn.eO_a, Cn.eC_a, Cn.eOp_a, Cn.eUn_a, Cn.eAnd_a, Cn.eOr_a, Cn.eChain_a, Cn.eLst_a, Cn.eTup_a, Cn.eCall_a, Cn.eCallB_a, Cn.eSl_a, Cn.eComp_a, Cn.eYes_a, Cn.aNil_a, Cn.aCons_a, Cn.oNone_a, Cn.oSome_a, Cn.eDict1_a, Cn.iL_a, Cn.iT_a, Cn.iR1_a, Cn.iR2_a, Cn.iR3_a, Cn.tgN_a, Cn.bind_ok, Cn.bind_ex, Cn.rOut_ok, Cn.rOut_ex, List.map_cons, List.map_nil, List.length_cons, List.length_nil, List.cons_append, List.nil_append, List.replicate, List.set, List.getElem?_cons_zero, List.getElem?_cons_succ, Nat.reduceAdd, Nat.reduceSub, Cn.addD, Cn.subD, Cn.negD, Cn.notD, Cn.ltD, Cn.gtD, Cn.geD, Cn.leD, Cn.lenD, Cn.intD, Cn.listD, Cn.seqD, Cn.tupD, Cn.isi_ii, Cn.isi_ib, Cn.isi_bb, Cn.isi_ll, Cn.isi_tt, Cn.isi_ss, Cn.eqD_ii, Cn.neD_ii, Cn.eqD_ss, Cn.neD_ss, Cn.eqD_bb, Cn.neD_bb, decide_true, decide_false, Bool.not_true, Bool.not_false, show (-(1 : Int)) = -1 from rfl, seq_bd, e']
def pfst : D → D
  | .tup (x :: _) => x
  | d => d
def psnd : D → D
  | .tup (_ :: y :: _) => y
  | d => d
theorem fsts {env : En} {j : Nat} (hj : ∀ d, (env.set j (.val d))[j]? = some (.val d)) (l : List Nat) : compL j eYes (eOp ixD (eV j) (eC (.int 0))) env (l.map pr) = .ok ((l.map (· / 16)).map iN) := by
  rw [compL_all (g := pfst)]
  · rw [List.map_map, List.map_map]; rfl
  · intro d hd
    obtain ⟨c, _, rfl⟩ := List.mem_map.mp hd
    simp only [eOp_a, eV_a, eC_a, hj, bind_ok, px]
    rfl
theorem snds {env : En} {j : Nat} (hj : ∀ d, (env.set j (.val d))[j]? = some (.val d)) (l : List Nat) : compL j eYes (eOp ixD (eV j) (eC (.int 1))) env (l.map pr) = .ok ((l.map (· % 16)).map iN) := by
  rw [compL_all (g := psnd)]
  · rw [List.map_map, List.map_map]; rfl
  · intro d hd
    obtain ⟨c, _, rfl⟩ := List.mem_map.mp hd
    simp only [eOp_a, eV_a, eC_a, hj, bind_ok, py]
    rfl
section
variable {rx ry : D} {Sx Sy : Nat → List (List Nat)} {B : Nat}
/-- the number of a place of a board -/
def fb (Sx Sy : Nat → List (List Nat)) (c : Nat) : Nat := Nf.nim 4 (num1 Sx (c / 16)) (num1 Sy (c % 16))
def vb1 : SFn := (sAsg 6 (eOp xorD (eV 6) (eCall fn_times (aCons (eOp ixD (eV 3) (eOp ixD (eV 4) (eC (.int 0)))) (aCons (eOp ixD (eV 5) (eOp ixD (eV 4) (eC (.int 1)))) aNil)))))
theorem bvalue_loop (Kx : RuleOk rx Sx B) (Ky : RuleOk ry Sy B) {l : List Nat} {mx my : Nat} (hm : ∀ c ∈ l, c / 16 ≤ mx ∧ c % 16 ≤ my) (hB : mx < B ∧ my < B) (s0 s1 s2 s4 : Sl) : ∃ s', forL (tgN 4) vb1 (l.map pr) [s0, s1, s2, .val (nl (nums Sx (mx + 1))), s4, .val (nl (nums Sy (my + 1))), .val (.int 0)] =
    .nx [s0, s1, s2, .val (nl (nums Sx (mx + 1))), s', .val (nl (nums Sy (my + 1))), .val (iN (ovr (fb Sx Sy) l))] := by
  obtain ⟨j', h1, _⟩ := fold_loop (ga := tgN 4) (F := vb1) (J := Sl) (P := fun _ _ => True) (N := l.length) (enc := pr) (st := fun t x => [s0, s1, s2, .val (nl (nums Sx (mx + 1))), x, .val (nl (nums Sy (my + 1))), .val (iN t)]) (nxt := fun t p => t ^^^ fb Sx Sy p) l 0 0 s4 (by omega) trivial fun i t x c _ hc _ => by
    have hcm := hm c hc
    have hx := @ix_nl (nums Sx (mx + 1)) (c / 16) (by rw [nums_len]; omega)
    have hy := @ix_nl (nums Sy (my + 1)) (c % 16) (by rw [nums_len]; omega)
    rw [nums_get Sx (show c / 16 < mx + 1 by omega)] at hx
    rw [nums_get Sy (show c % 16 < my + 1 by omega)] at hy
    have l1 := num1_low Kx (show c / 16 < B by omega)
    have l2 := num1_low Ky (show c % 16 < B by omega)
    have ht := @times_ok (num1 Sx (c / 16)) (num1 Sy (c % 16)) (by omega) (by omega)
    refine ⟨_, .val (pr c), rfl, ?_, trivial⟩
    unfold vb1
    simp only [Cn.runF_a, Cn.sSeq_a, Cn.sIf_a, Cn.sAsg_a, Cn.sOwn_a, Cn.sRet_a, Cn.sRetO_a, Cn.sNil_a, Cn.sRaise_a, Cn.sExpr_a, Cn.sFrz_a, Cn.sDrop_a, Cn.frz_a, Cn.sApp_a, Cn.sExt_a, Cn.sPut_a, Cn.sPutD_a, Cn.sFor_a, Cn.sWhile_a, Cn.eV_a, Cn.eO_a, Cn.eC_a, Cn.eOp_a, Cn.eUn_a, Cn.eAnd_a, Cn.eOr_a, Cn.eChain_a, Cn.eLst_a, Cn.eTup_a, Cn.eCall_a, Cn.eCallB_a, Cn.eSl_a, Cn.eComp_a, Cn.eYes_a, Cn.aNil_a, Cn.aCons_a, Cn.oNone_a, Cn.oSome_a, Cn.eDict1_a, Cn.iL_a, Cn.iT_a, Cn.iR1_a, Cn.iR2_a, Cn.iR3_a, Cn.tgN_a, Cn.bind_ok, Cn.bind_ex, Cn.rOut_ok, Cn.rOut_ex, List.map_cons, List.map_nil, List.length_cons, List.length_nil, List.cons_append, List.nil_append, List.replicate, List.set, List.getElem?_cons_zero, List.getElem?_cons_succ, Nat.reduceAdd, Nat.reduceSub, Cn.addD, Cn.subD, Cn.negD, Cn.notD, Cn.ltD, Cn.gtD, Cn.geD, Cn.leD, Cn.lenD, Cn.intD, Cn.listD, Cn.seqD, Cn.tupD, Cn.isi_ii, Cn.isi_ib, Cn.isi_bb, Cn.isi_ll, Cn.isi_tt, Cn.isi_ss, Cn.eqD_ii, Cn.neD_ii, Cn.eqD_ss, Cn.neD_ss, Cn.eqD_bb, Cn.neD_bb, decide_true, decide_false, Bool.not_true, Bool.not_false, px, py, hx, hy, ht, xor_iN]
    rfl
  rw [ovr_from, Nat.zero_xor] at h1
  exact ⟨j', h1⟩
theorem bvalue_ok (Kx : RuleOk rx Sx B) (Ky : RuleOk ry Sy B) {l : List Nat} (h : RiseB (-16) l) (hB : ∀ c ∈ l, c / 16 < B ∧ c % 16 < B) (hB0 : 0 < B) (hlen : l.length ≤ 1000) : fn_board_value [rx, ry, bd l] = .ok (iN (ovr (fb Sx Sy) l)) := by
  obtain ⟨mx, x1, x2, x3⟩ := max_ok (l.map (· / 16))
  obtain ⟨my, y1, y2, y3⟩ := max_ok (l.map (· % 16))
  have hmx : mx < B := by
    rcases x3 with rfl | x3
    · exact hB0
    · obtain ⟨c, hc, rfl⟩ := List.mem_map.mp x3
      exact (hB c hc).1
  have hmy : my < B := by
    rcases y3 with rfl | y3
    · exact hB0
    · obtain ⟨c, hc, rfl⟩ := List.mem_map.mp y3
      exact (hB c hc).2
  have nx := numbers_ok Kx hmx
  have ny := numbers_ok Ky hmy
  obtain ⟨s', e⟩ := bvalue_loop Kx Ky (l := l) (mx := mx) (my := my) (fun c hc => ⟨x2 _ (List.mem_map.mpr ⟨c, hc, rfl⟩), y2 _ (List.mem_map.mpr ⟨c, hc, rfl⟩)⟩) ⟨hmx, hmy⟩ (.val rx) (.val ry) (.val (bd l)) .no
  unfold vb1 at e
  have f1 := @fsts [.val rx, .val ry, .val (bd l), .no, .no, .no, .no] 4 (fun d => rfl) l
  have f2 := @snds [.val rx, .val ry, .val (bd l), .val (nl (nums Sx (mx + 1))), .no, .no, .no] 4 (fun d => rfl) l
  have hlim : l.length ≤ LIM := by rw [LIM_eq]; omega
  have hlim2 : 1 + l.length ≤ LIM := by rw [LIM_eq]; omega
  unfold fn_board_value b_board_value
  simp only [Cn.runF_a, Cn.sSeq_a, Cn.sIf_a, Cn.sAsg_a, Cn.sOwn_a, Cn.sRet_a, Cn.sRetO_a, Cn.sNil_a, Cn.sRaise_a, Cn.sExpr_a, Cn.sFrz_a, Cn.sDrop_a, Cn.frz_a, Cn.sApp_a, Cn.sExt_a, Cn.sPut_a, Cn.sPutD_a, Cn.sFor_a, Cn.sWhile_a, Cn.eV_a, Cn.eO_a, Cn.eC_a, Cn.eOp_a, Cn.eUn_a, Cn.eAnd_a, Cn.eOr_a, Cn.eChain_a, Cn.eLst_a, Cn.eTup_a, Cn.eCall_a, Cn.eCallB_a, Cn.eSl_a, Cn.eComp_a, Cn.eYes_a, Cn.aNil_a, Cn.aCons_a, Cn.oNone_a, Cn.oSome_a, Cn.eDict1_a, Cn.iL_a, Cn.iT_a, Cn.iR1_a, Cn.iR2_a, Cn.iR3_a, Cn.tgN_a, Cn.bind_ok, Cn.bind_ex, Cn.rOut_ok, Cn.rOut_ex, List.map_cons, List.map_nil, List.length_cons, List.length_nil, List.cons_append, List.nil_append, List.replicate, List.set, List.getElem?_cons_zero, List.getElem?_cons_succ, Nat.reduceAdd, Nat.reduceSub, Cn.addD, Cn.subD, Cn.negD, Cn.notD, Cn.ltD, Cn.gtD, Cn.geD, Cn.leD, Cn.lenD, Cn.intD, Cn.listD, Cn.seqD, Cn.tupD, Cn.isi_ii, Cn.isi_ib, Cn.isi_bb, Cn.isi_ll, Cn.isi_tt, Cn.isi_ss, Cn.eqD_ii, Cn.neD_ii, Cn.eqD_ss, Cn.neD_ss, Cn.eqD_bb, Cn.neD_bb, decide_true, decide_false, Bool.not_true, Bool.not_false, Kx.asked, Ky.asked, asked_board_ok h, seq_bd, List.length_map, if_pos hlim, f1, f2, Nat.zero_add, if_pos hlim2, x1, y1, nx, ny, e]
end
def outO {γ : Type} (res : γ → D) (o : Out) : Option γ → Out
  | some d => .rt (res d)
  | none => o
theorem findSome_loop {β γ J : Type} {ga : D → En → Option En} {F : SFn} {enc : β → D} {g : β → Option γ} {res : γ → D} {st : J → En} : ∀ (l : List β) (s : J), (∀ b ∈ l, ∀ s : J, ∃ e s', ga (enc b) (st s) = some e ∧ F e = outO res (.nx (st s')) (g b)) →
    ∃ s', forL ga F (l.map enc) (st s) = outO res (.nx (st s')) (l.findSome? g)
  | [], s, _ => ⟨s, rfl⟩
  | b :: r, s, h => by
    obtain ⟨e, s1, h1, h2⟩ := h b (List.mem_cons_self ..) s
    obtain ⟨s', ih⟩ := findSome_loop (g := g) (st := st) (res := res) r s1 fun b hb s => h b (List.mem_cons_of_mem _ hb) s
    cases hp : g b with
    | some d =>
      refine ⟨s, ?_⟩
      rw [hp] at h2
      rw [List.map_cons, forL_cons, h1, List.findSome?_cons, hp]
      dsimp only
      rw [h2]
      rfl
    | none =>
      refine ⟨s', ?_⟩
      rw [hp] at h2
      rw [List.map_cons, forL_cons, h1, List.findSome?_cons, hp]
      dsimp only
      rw [h2]
      exact ih
theorem ovr_lt {f : Nat → Nat} {k : Nat} : ∀ {s : List Nat}, (∀ q ∈ s, f q < 2 ^ k) → ovr f s < 2 ^ k
  | [], _ => Nat.two_pow_pos k
  | a :: r, h => by
    rw [ovr_cons]
    exact Nat.xor_lt_two_pow (h a (List.mem_cons_self ..)) (ovr_lt fun q hq => h q (List.mem_cons_of_mem _ hq))
abbrev tw (t : List Nat × List Nat) : D := .tup [nl t.1, nl t.2]
def zs (l : List Nat) : List Int := l.map fun n : Nat => (n : Int)
theorem zs_il (l : List Nat) : (zs l).map D.int = l.map iN := by
  unfold zs
  rw [List.map_map]
  rfl
theorem nl_zs (l : List Nat) : nl l = .lst ((zs l).map D.int) := by rw [zs_il]
theorem nll_listy (xss : List (List Nat)) : nll xss = listy (xss.map zs) := by
  show D.lst _ = D.lst _
  rw [List.map_map]
  congr 1
  exact List.map_congr_left fun x _ => nl_zs x
/-- what the reply is told as: two lists, each its own -/
abbrev tw2 (t : List Nat × List Nat) : D := .two (zs t.1) (zs t.2)
theorem outP_eq {j : Nat} {f : Addr → Out} {o : Out} (h : ∀ a, rmO j (f a) = o) : outP j f = o := by
  unfold outP
  rw [if_pos (fun a => (h a).trans (h 0).symm)]
  exact h 0
theorem forP_some {γ : Type} {g : List Nat → Option γ} {res : γ → D} {st : Sl → En} {FB : D → Addr → SFn} (hst : ∀ s s', (st s).set 8 s' = st s') (hlen : ∀ s, 8 < (st s).length) : ∀ (l : List (List Nat)) (s : Sl), (∀ y ∈ l, ∀ a, FB (.lst ((zs y).map D.int)) a (st (.val (.err a))) = outO res (.nx (st (.val (.err a)))) (g y)) →
    ∃ s', forP 8 FB (l.map zs) (st s) = outO res (.nx (st s')) (l.findSome? g)
  | [], s, _ => ⟨s, by rw [List.map_nil]; unfold forP; rfl⟩
  | y :: r, s, h => by
    have ho : outP 8 (fun a => FB (.lst ((zs y).map D.int)) a ((st s).set 8 (.val (.err a)))) = outO res (.nx (st .no)) (g y) := outP_eq fun a => by
      rw [hst, h y (List.mem_cons_self ..) a]
      cases g y with
      | some d => rfl
      | none => show Out.nx ((st _).set 8 .no) = _; rw [hst]; rfl
    obtain ⟨s', ih⟩ := forP_some (g := g) (res := res) hst hlen r .no fun y hy a => h y (List.mem_cons_of_mem _ hy) a
    rw [List.map_cons, List.findSome?_cons]
    unfold forP
    rw [ho]
    cases hp : g y with
    | some d => exact ⟨s, if_pos (hlen s)⟩
    | none => exact ⟨s', (if_pos (hlen s)).trans ih⟩
section
variable {rx ry : D} {Sx Sy : Nat → List (List Nat)} {B : Nat}
/-- the product of a turn's two sums -/
def fp (Sx Sy : Nat → List (List Nat)) (t : List Nat × List Nat) : Nat := Nf.nim 4 (ovr (num1 Sx) t.1) (ovr (num1 Sy) t.2)
def g3 (Sx Sy : Nat → List (List Nat)) (v : Nat) (xs ys : List Nat) : Option (List Nat × List Nat) := if fp Sx Sy (xs, ys) = v then some (xs, ys) else none
def g2 (Sx Sy : Nat → List (List Nat)) (v y : Nat) (xs : List Nat) : Option (List Nat × List Nat) := (Sy y).findSome? (g3 Sx Sy v xs)
def g1 (Sx Sy : Nat → List (List Nat)) (v c : Nat) : Option (List Nat × List Nat) := (Sx (c / 16)).findSome? (g2 Sx Sy v (c % 16))
def firstB (Sx Sy : Nat → List (List Nat)) (l : List Nat) : Option (List Nat × List Nat) := l.findSome? (g1 Sx Sy (ovr (fb Sx Sy) l))
def bcd : EF := (eOp eqD (eCall fn_times (aCons (eCall fn_over (aCons (eV 4) (aCons (eV 7) aNil))) (aCons (eCall fn_over (aCons (eV 6) (aCons (eV 8) aNil))) aNil))) (eV 3))
def br3 (d : D) : Addr → SFn := (sIfQ 8 d bcd (sRetTwo 7 d) (fun _ env => .nx env))
noncomputable def br2 : SFn := (sForP 8 (eCallP fn_shapes (aCons (eV 1) (aCons (eOp ixD (eV 5) (eC (.int 1))) aNil))) br3)
noncomputable def br1 : SFn := (sFor (iL (eCall fn_shapes (aCons (eV 0) (aCons (eOp ixD (eV 5) (eC (.int 0))) aNil)))) (tgN 7) br2)
theorem shape_le {S : Nat → List (List Nat)} {p m : Nat} {s : List Nat} (h : Cn.Shaped S p) (hs : s ∈ S p) (hpm : p ≤ m) : ∀ q ∈ s, q < m + 1 := by
  intro q hq
  have hsh := h s hs
  rw [hsh.1] at hq
  rcases List.mem_append.mp hq with hq | hq
  · have := hsh.2 q hq; omega
  · rw [List.mem_singleton] at hq; omega
theorem ovr_low {r : D} {S : Nat → List (List Nat)} (K : RuleOk r S B) {p : Nat} {s : List Nat} (hp : p < B) (hs : s ∈ S p) : ovr (num1 S) s < 65536 := by
  have := @ovr_lt (num1 S) 10 s fun q hq => by
    have h1 := shape_le (K.shaped p hp) hs (Nat.le_refl p) q hq
    have := num1_low K (show q < B by omega)
    omega
  omega
theorem br3_turn (Kx : RuleOk rx Sx B) (Ky : RuleOk ry Sy B) {mx my c v : Nat} (hc : c / 16 ≤ mx ∧ c % 16 ≤ my) (hB : mx < B ∧ my < B) {xs ys : List Nat} (hx : xs ∈ Sx (c / 16)) (hy : ys ∈ Sy (c % 16)) (s0 s1 s2 : Sl) (a : Addr) :
    br3 (.lst ((zs ys).map D.int)) a [s0, s1, s2, .val (iN v), .val (nl (nums Sx (mx + 1))), .val (pr c), .val (nl (nums Sy (my + 1))), .val (nl xs), .val (.err a)] =
      outO tw2 (.nx [s0, s1, s2, .val (iN v), .val (nl (nums Sx (mx + 1))), .val (pr c), .val (nl (nums Sy (my + 1))), .val (nl xs), .val (.err a)]) (g3 Sx Sy v xs ys) := by
  have o1 := @over_nums Sx (mx + 1) xs (shape_le (Kx.shaped _ (by omega)) hx hc.1)
  have o2 := @over_nums Sy (my + 1) ys (shape_le (Ky.shaped _ (by omega)) hy hc.2)
  have ht := times_ok (ovr_low Kx (by omega) hx) (ovr_low Ky (by omega) hy)
  rw [zs_il]
  have hcd : bcd [s0, s1, s2, .val (iN v), .val (nl (nums Sx (mx + 1))), .val (pr c), .val (nl (nums Sy (my + 1))), .val (nl xs), .val (nl ys)] = .ok (.bl (decide (Nf.nim 4 (ovr (num1 Sx) xs) (ovr (num1 Sy) ys) = v))) := by
    unfold bcd
    simp only [Cn.runF_a, Cn.sSeq_a, Cn.sIf_a, Cn.sAsg_a, Cn.sOwn_a, Cn.sRet_a, Cn.sRetO_a, Cn.sNil_a, Cn.sRaise_a, Cn.sExpr_a, Cn.sFrz_a, Cn.sDrop_a, Cn.frz_a, Cn.sApp_a, Cn.sExt_a, Cn.sPut_a, Cn.sPutD_a, Cn.sFor_a, Cn.sWhile_a, Cn.eV_a, Cn.eO_a, Cn.eC_a, Cn.eOp_a, Cn.eUn_a, Cn.eAnd_a, Cn.eOr_a, Cn.eChain_a, Cn.eLst_a, Cn.eTup_a, Cn.eCall_a, Cn.eCallB_a, Cn.eSl_a, Cn.eComp_a, Cn.eYes_a, Cn.aNil_a, Cn.aCons_a, Cn.oNone_a, Cn.oSome_a, Cn.eDict1_a, Cn.iL_a, Cn.iT_a, Cn.iR1_a, Cn.iR2_a, Cn.iR3_a, Cn.tgN_a, Cn.bind_ok, Cn.bind_ex, Cn.rOut_ok, Cn.rOut_ex, List.map_cons, List.map_nil, List.length_cons, List.length_nil, List.cons_append, List.nil_append, List.replicate, List.set, List.getElem?_cons_zero, List.getElem?_cons_succ, Nat.reduceAdd, Nat.reduceSub, Cn.addD, Cn.subD, Cn.negD, Cn.notD, Cn.ltD, Cn.gtD, Cn.geD, Cn.leD, Cn.lenD, Cn.intD, Cn.listD, Cn.seqD, Cn.tupD, Cn.isi_ii, Cn.isi_ib, Cn.isi_bb, Cn.isi_ll, Cn.isi_tt, Cn.isi_ss, Cn.eqD_ii, Cn.neD_ii, Cn.eqD_ss, Cn.neD_ss, Cn.eqD_bb, Cn.neD_bb, decide_true, decide_false, Bool.not_true, Bool.not_false, o1, o2, ht]
    congr 2
    exact decide_eq_decide.mpr (by omega)
  unfold br3 sIfQ g3 fp
  simp only [List.set, hcd, rOut_ok]
  by_cases hd : Nf.nim 4 (ovr (num1 Sx) xs) (ovr (num1 Sy) ys) = v
  · rw [if_pos hd, decide_eq_true hd]
    have t1 : toInts (xs.map iN) = some (zs xs) := toInts_nat xs
    have t2 : toInts (ys.map iN) = some (zs ys) := toInts_nat ys
    unfold sRetTwo
    simp only [List.getElem?_cons_zero, List.getElem?_cons_succ, t1, t2]
    rfl
  · rw [if_neg hd, decide_eq_false hd]
    rfl
theorem br2_turn (Kx : RuleOk rx Sx B) (Ky : RuleOk ry Sy B) (hT : tupF ry = true) {mx my c v : Nat} (hc : c / 16 ≤ mx ∧ c % 16 ≤ my) (hB : mx < B ∧ my < B) {xs : List Nat} (hx : xs ∈ Sx (c / 16)) (s2 s8 : Sl) :
    ∃ s8', br2 [.val rx, .val ry, s2, .val (iN v), .val (nl (nums Sx (mx + 1))), .val (pr c), .val (nl (nums Sy (my + 1))), .val (nl xs), s8] =
      outO tw2 (.nx [.val rx, .val ry, s2, .val (iN v), .val (nl (nums Sx (mx + 1))), .val (pr c), .val (nl (nums Sy (my + 1))), .val (nl xs), s8']) (g2 Sx Sy v (c % 16) xs) := by
  obtain ⟨s', e⟩ := forP_some (g := g3 Sx Sy v xs) (res := tw2) (st := fun x => [.val rx, .val ry, s2, .val (iN v), .val (nl (nums Sx (mx + 1))), .val (pr c), .val (nl (nums Sy (my + 1))), .val (nl xs), x]) (FB := br3) (fun _ _ => rfl) (fun _ => by simp) (Sy (c % 16)) s8 fun ys hy a =>
    br3_turn Kx Ky hc hB hx hy _ _ _ a
  refine ⟨s', ?_⟩
  have hA : argO ry = true := by unfold argO; rw [hT]; rfl
  have hall : ([ry, iN (c % 16)] : List D).all argO = true := by
    rw [List.all_cons, hA]; rfl
  have hres : ResOk [ry, iN (c % 16)] (nll (Sy (c % 16))) := .inr (.inl ⟨by rw [List.all_cons, hT]; rfl, _, nll_listy _⟩)
  have hcall : eCallP fn_shapes (aCons (eV 1) (aCons (eOp ixD (eV 5) (eC (.int 1))) aNil)) [.val rx, .val ry, s2, .val (iN v), .val (nl (nums Sx (mx + 1))), .val (pr c), .val (nl (nums Sy (my + 1))), .val (nl xs), s8] = .ok (nll (Sy (c % 16))) := by
    unfold eCallP
    simp only [Cn.runF_a, Cn.sSeq_a, Cn.sIf_a, Cn.sAsg_a, Cn.sOwn_a, Cn.sRet_a, Cn.sRetO_a, Cn.sNil_a, Cn.sRaise_a, Cn.sExpr_a, Cn.sFrz_a, Cn.sDrop_a, Cn.frz_a, Cn.sApp_a, Cn.sExt_a, Cn.sPut_a, Cn.sPutD_a, Cn.sFor_a, Cn.sWhile_a, Cn.eV_a, Cn.eO_a, Cn.eC_a, Cn.eOp_a, Cn.eUn_a, Cn.eAnd_a, Cn.eOr_a, Cn.eChain_a, Cn.eLst_a, Cn.eTup_a, Cn.eCall_a, Cn.eCallB_a, Cn.eSl_a, Cn.eComp_a, Cn.eYes_a, Cn.aNil_a, Cn.aCons_a, Cn.oNone_a, Cn.oSome_a, Cn.eDict1_a, Cn.iL_a, Cn.iT_a, Cn.iR1_a, Cn.iR2_a, Cn.iR3_a, Cn.tgN_a, Cn.bind_ok, Cn.bind_ex, Cn.rOut_ok, Cn.rOut_ex, List.map_cons, List.map_nil, List.length_cons, List.length_nil, List.cons_append, List.nil_append, List.replicate, List.set, List.getElem?_cons_zero, List.getElem?_cons_succ, Nat.reduceAdd, Nat.reduceSub, Cn.addD, Cn.subD, Cn.negD, Cn.notD, Cn.ltD, Cn.gtD, Cn.geD, Cn.leD, Cn.lenD, Cn.intD, Cn.listD, Cn.seqD, Cn.tupD, Cn.isi_ii, Cn.isi_ib, Cn.isi_bb, Cn.isi_ll, Cn.isi_tt, Cn.isi_ss, Cn.eqD_ii, Cn.neD_ii, Cn.eqD_ss, Cn.neD_ss, Cn.eqD_bb, Cn.neD_bb, decide_true, decide_false, Bool.not_true, Bool.not_false, py]
    rw [if_pos hall, Ky.shp (c % 16) (by omega)]
    exact if_pos hres
  unfold br2 sForP
  rw [hcall]
  dsimp only
  rw [nll_listy, unL_listy, if_pos rfl]
  exact e
theorem br1_turn (Kx : RuleOk rx Sx B) (Ky : RuleOk ry Sy B) (hT : tupF ry = true) {mx my c v : Nat} (hc : c / 16 ≤ mx ∧ c % 16 ≤ my) (hB : mx < B ∧ my < B) (s2 s7 s8 : Sl) :
    ∃ s7' s8', br1 [.val rx, .val ry, s2, .val (iN v), .val (nl (nums Sx (mx + 1))), .val (pr c), .val (nl (nums Sy (my + 1))), s7, s8] =
      outO tw2 (.nx [.val rx, .val ry, s2, .val (iN v), .val (nl (nums Sx (mx + 1))), .val (pr c), .val (nl (nums Sy (my + 1))), s7', s8']) (g1 Sx Sy v c) := by
  obtain ⟨s', e⟩ := findSome_loop (J := Sl × Sl) (ga := tgN 7) (F := br2) (enc := nl) (g := g2 Sx Sy v (c % 16)) (res := tw2) (st := fun x => [.val rx, .val ry, s2, .val (iN v), .val (nl (nums Sx (mx + 1))), .val (pr c), .val (nl (nums Sy (my + 1))), x.1, x.2]) (Sx (c / 16)) (s7, s8) fun xs hx x => by
    obtain ⟨s8', e⟩ := br2_turn Kx Ky hT (v := v) hc hB hx s2 x.2
    exact ⟨_, (.val (nl xs), s8'), rfl, e⟩
  refine ⟨s'.1, s'.2, ?_⟩
  unfold br1
  simp only [Cn.runF_a, Cn.sSeq_a, Cn.sIf_a, Cn.sAsg_a, Cn.sOwn_a, Cn.sRet_a, Cn.sRetO_a, Cn.sNil_a, Cn.sRaise_a, Cn.sExpr_a, Cn.sFrz_a, Cn.sDrop_a, Cn.frz_a, Cn.sApp_a, Cn.sExt_a, Cn.sPut_a, Cn.sPutD_a, Cn.sFor_a, Cn.sWhile_a, Cn.eV_a, Cn.eO_a, Cn.eC_a, Cn.eOp_a, Cn.eUn_a, Cn.eAnd_a, Cn.eOr_a, Cn.eChain_a, Cn.eLst_a, Cn.eTup_a, Cn.eCall_a, Cn.eCallB_a, Cn.eSl_a, Cn.eComp_a, Cn.eYes_a, Cn.aNil_a, Cn.aCons_a, Cn.oNone_a, Cn.oSome_a, Cn.eDict1_a, Cn.iL_a, Cn.iT_a, Cn.iR1_a, Cn.iR2_a, Cn.iR3_a, Cn.tgN_a, Cn.bind_ok, Cn.bind_ex, Cn.rOut_ok, Cn.rOut_ex, List.map_cons, List.map_nil, List.length_cons, List.length_nil, List.cons_append, List.nil_append, List.replicate, List.set, List.getElem?_cons_zero, List.getElem?_cons_succ, Nat.reduceAdd, Nat.reduceSub, Cn.addD, Cn.subD, Cn.negD, Cn.notD, Cn.ltD, Cn.gtD, Cn.geD, Cn.leD, Cn.lenD, Cn.intD, Cn.listD, Cn.seqD, Cn.tupD, Cn.isi_ii, Cn.isi_ib, Cn.isi_bb, Cn.isi_ll, Cn.isi_tt, Cn.isi_ss, Cn.eqD_ii, Cn.neD_ii, Cn.eqD_ss, Cn.neD_ss, Cn.eqD_bb, Cn.neD_bb, decide_true, decide_false, Bool.not_true, Bool.not_false, px, Kx.shp (c / 16) (by omega), seq_nll, e]
  unfold g1
  cases (Sx (c / 16)).findSome? (g2 Sx Sy v (c % 16)) <;> rfl
theorem breply_zero (Kx : RuleOk rx Sx B) (Ky : RuleOk ry Sy B) {l : List Nat} (h : RiseB (-16) l) (hB : ∀ c ∈ l, c / 16 < B ∧ c % 16 < B) (hB0 : 0 < B) (hlen : l.length ≤ 1000) (hz : ovr (fb Sx Sy) l = 0) : fn_board_reply [rx, ry, bd l] = .ok .non := by
  have h1 := bvalue_ok Kx Ky h hB hB0 hlen
  rw [hz] at h1
  have h1' : fn_board_value [rx, ry, bd l] = .ok (.int 0) := h1
  unfold fn_board_reply b_board_reply
  simp only [Cn.runF_a, Cn.sSeq_a, Cn.sIf_a, Cn.sAsg_a, Cn.sOwn_a, Cn.sRet_a, Cn.sRetO_a, Cn.sNil_a, Cn.sRaise_a, Cn.sExpr_a, Cn.sFrz_a, Cn.sDrop_a, Cn.frz_a, Cn.sApp_a, Cn.sExt_a, Cn.sPut_a, Cn.sPutD_a, Cn.sFor_a, Cn.sWhile_a, Cn.eV_a, Cn.eO_a, Cn.eC_a, Cn.eOp_a, Cn.eUn_a, Cn.eAnd_a, Cn.eOr_a, Cn.eChain_a, Cn.eLst_a, Cn.eTup_a, Cn.eCall_a, Cn.eCallB_a, Cn.eSl_a, Cn.eComp_a, Cn.eYes_a, Cn.aNil_a, Cn.aCons_a, Cn.oNone_a, Cn.oSome_a, Cn.eDict1_a, Cn.iL_a, Cn.iT_a, Cn.iR1_a, Cn.iR2_a, Cn.iR3_a, Cn.tgN_a, Cn.bind_ok, Cn.bind_ex, Cn.rOut_ok, Cn.rOut_ex, List.map_cons, List.map_nil, List.length_cons, List.length_nil, List.cons_append, List.nil_append, List.replicate, List.set, List.getElem?_cons_zero, List.getElem?_cons_succ, Nat.reduceAdd, Nat.reduceSub, Cn.addD, Cn.subD, Cn.negD, Cn.notD, Cn.ltD, Cn.gtD, Cn.geD, Cn.leD, Cn.lenD, Cn.intD, Cn.listD, Cn.seqD, Cn.tupD, Cn.isi_ii, Cn.isi_ib, Cn.isi_bb, Cn.isi_ll, Cn.isi_tt, Cn.isi_ss, Cn.eqD_ii, Cn.neD_ii, Cn.eqD_ss, Cn.neD_ss, Cn.eqD_bb, Cn.neD_bb, decide_true, decide_false, Bool.not_true, Bool.not_false, h1', show decide ((0 : Int) = 0) = true from rfl]
theorem max_ne {l : List Nat} (hl : l ≠ []) : ∃ M : Nat, maxD (nl l) = .ok (iN M) ∧ (∀ q ∈ l, q ≤ M) ∧ M ∈ l := by
  match l, hl with
  | a :: r, _ =>
    obtain ⟨M, h1, h2, h3, h4⟩ := maxI_nat r a
    refine ⟨M, ?_, ?_, ?_⟩
    · have e : toInts ((a :: r).map iN) = some ((a : Int) :: r.map fun n : Nat => (n : Int)) := toInts_nat (a :: r)
      have e' : toInts (iN a :: r.map iN) = some ((a : Int) :: r.map fun n : Nat => (n : Int)) := e
      show maxD (.lst (iN a :: r.map iN)) = _
      simp only [maxD, e', h1]
    · intro q hq
      rcases List.mem_cons.mp hq with rfl | hq
      · exact h2
      · exact h3 q hq
    · rcases h4 with rfl | h4
      · exact List.mem_cons_self ..
      · exact List.mem_cons_of_mem _ h4
theorem breply_ok (Kx : RuleOk rx Sx B) (Ky : RuleOk ry Sy B) (hT : tupF ry = true) {l : List Nat} (h : RiseB (-16) l) (hB : ∀ c ∈ l, c / 16 < B ∧ c % 16 < B) (hB0 : 0 < B) (hlen : l.length ≤ 1000) (hz : ovr (fb Sx Sy) l ≠ 0) :
    fn_board_reply [rx, ry, bd l] = .ok (match firstB Sx Sy l with | some t => tw2 t | none => .non) := by
  have h1 := bvalue_ok Kx Ky h hB hB0 hlen
  have hne : l ≠ [] := fun z => hz (by rw [z]; rfl)
  obtain ⟨mx, x1, x2, x3⟩ := max_ne (l := l.map (· / 16)) (fun z => hne (List.map_eq_nil_iff.mp z))
  obtain ⟨my, y1, y2, y3⟩ := max_ne (l := l.map (· % 16)) (fun z => hne (List.map_eq_nil_iff.mp z))
  have hmx : mx < B := by
    obtain ⟨c, hc, rfl⟩ := List.mem_map.mp x3
    exact (hB c hc).1
  have hmy : my < B := by
    obtain ⟨c, hc, rfl⟩ := List.mem_map.mp y3
    exact (hB c hc).2
  have nx := numbers_ok Kx hmx
  have ny := numbers_ok Ky hmy
  have hd : decide (((ovr (fb Sx Sy) l : Nat) : Int) = 0) = false := decide_eq_false (by omega)
  obtain ⟨s', e⟩ := findSome_loop (J := Sl × Sl × Sl) (ga := tgN 5) (F := br1) (enc := pr) (g := g1 Sx Sy (ovr (fb Sx Sy) l)) (res := tw2) (st := fun x => [.val rx, .val ry, .val (bd l), .val (iN (ovr (fb Sx Sy) l)), .val (nl (nums Sx (mx + 1))), x.1, .val (nl (nums Sy (my + 1))), x.2.1, x.2.2]) l (.no, .no, .no) fun c hc x => by
    obtain ⟨s7, s8, e⟩ := br1_turn Kx Ky hT (v := ovr (fb Sx Sy) l) ⟨x2 _ (List.mem_map.mpr ⟨c, hc, rfl⟩), y2 _ (List.mem_map.mpr ⟨c, hc, rfl⟩)⟩ ⟨hmx, hmy⟩ (.val (bd l)) x.2.1 x.2.2
    exact ⟨_, (.val (pr c), s7, s8), rfl, e⟩
  have f1 := @fsts [.val rx, .val ry, .val (bd l), .val (iN (ovr (fb Sx Sy) l)), .no, .no, .no, .no, .no] 5 (fun d => rfl) l
  have f2 := @snds [.val rx, .val ry, .val (bd l), .val (iN (ovr (fb Sx Sy) l)), .val (nl (nums Sx (mx + 1))), .no, .no, .no, .no] 5 (fun d => rfl) l
  have hlim : l.length ≤ LIM := by rw [LIM_eq]; omega
  have hb : b_board_reply = (sSeq (sAsg 3 (eCall fn_board_value (aCons (eV 0) (aCons (eV 1) (aCons (eV 2) aNil)))))
    (sSeq (sIf (eOp eqD (eV 3) (eC (.int 0)))
    (sRet (eC .non))
    sNil)
    (sSeq (sAsg 4 (eCall fn_numbers (aCons (eV 0) (aCons (eUn maxD (eComp (iL (eV 2)) 5 eYes (eOp ixD (eV 5) (eC (.int 0))))) aNil))))
    (sSeq (sAsg 6 (eCall fn_numbers (aCons (eV 1) (aCons (eUn maxD (eComp (iL (eV 2)) 5 eYes (eOp ixD (eV 5) (eC (.int 1))))) aNil))))
    (sSeq (sFor (iL (eV 2)) (tgN 5) br1) (sRet (eC .non))))))) := by
    unfold b_board_reply br1 br2 br3 bcd
    rfl
  unfold fn_board_reply
  rw [hb]
  simp only [Cn.runF_a, Cn.sSeq_a, Cn.sIf_a, Cn.sAsg_a, Cn.sOwn_a, Cn.sRet_a, Cn.sRetO_a, Cn.sNil_a, Cn.sRaise_a, Cn.sExpr_a, Cn.sFrz_a, Cn.sDrop_a, Cn.frz_a, Cn.sApp_a, Cn.sExt_a, Cn.sPut_a, Cn.sPutD_a, Cn.sFor_a, Cn.sWhile_a, Cn.eV_a, Cn.eO_a, Cn.eC_a, Cn.eOp_a, Cn.eUn_a, Cn.eAnd_a, Cn.eOr_a, Cn.eChain_a, Cn.eLst_a, Cn.eTup_a, Cn.eCall_a, Cn.eCallB_a, Cn.eSl_a, Cn.eComp_a, Cn.eYes_a, Cn.aNil_a, Cn.aCons_a, Cn.oNone_a, Cn.oSome_a, Cn.eDict1_a, Cn.iL_a, Cn.iT_a, Cn.iR1_a, Cn.iR2_a, Cn.iR3_a, Cn.tgN_a, Cn.bind_ok, Cn.bind_ex, Cn.rOut_ok, Cn.rOut_ex, List.map_cons, List.map_nil, List.length_cons, List.length_nil, List.cons_append, List.nil_append, List.replicate, List.set, List.getElem?_cons_zero, List.getElem?_cons_succ, Nat.reduceAdd, Nat.reduceSub, Cn.addD, Cn.subD, Cn.negD, Cn.notD, Cn.ltD, Cn.gtD, Cn.geD, Cn.leD, Cn.lenD, Cn.intD, Cn.listD, Cn.seqD, Cn.tupD, Cn.isi_ii, Cn.isi_ib, Cn.isi_bb, Cn.isi_ll, Cn.isi_tt, Cn.isi_ss, Cn.eqD_ii, Cn.neD_ii, Cn.eqD_ss, Cn.neD_ss, Cn.eqD_bb, Cn.neD_bb, decide_true, decide_false, Bool.not_true, Bool.not_false, h1, hd, seq_bd, List.length_map, if_pos hlim, f1, f2, x1, y1, nx, ny, e]
  unfold firstB
  cases l.findSome? (g1 Sx Sy (ovr (fb Sx Sy) l)) <;> rfl
end
section
variable {Sx Sy : Nat → List (List Nat)}
theorem first_of {l : List Nat} {t : List Nat × List Nat} (h : firstB Sx Sy l = some t) : ∃ c ∈ l, t.1 ∈ Sx (c / 16) ∧ t.2 ∈ Sy (c % 16) ∧ fp Sx Sy t = ovr (fb Sx Sy) l := by
  obtain ⟨c, hc, h⟩ := List.exists_of_findSome?_eq_some h
  obtain ⟨xs, hx, h⟩ := List.exists_of_findSome?_eq_some h
  obtain ⟨ys, hy, h⟩ := List.exists_of_findSome?_eq_some h
  unfold g3 at h
  split at h
  · rename_i e
    cases h
    exact ⟨c, hc, hx, hy, e⟩
  · cases h
theorem first_is {l : List Nat} {c : Nat} {xs ys : List Nat} (hc : c ∈ l) (hx : xs ∈ Sx (c / 16)) (hy : ys ∈ Sy (c % 16)) (e : fp Sx Sy (xs, ys) = ovr (fb Sx Sy) l) : ∃ t, firstB Sx Sy l = some t := by
  cases h : firstB Sx Sy l with
  | some t => exact ⟨t, rfl⟩
  | none =>
    have h1 := List.findSome?_eq_none_iff.mp h c hc
    have h2 := List.findSome?_eq_none_iff.mp h1 xs hx
    have h3 := List.findSome?_eq_none_iff.mp h2 ys hy
    unfold g3 at h3
    rw [if_pos e] at h3
    cases h3
/-- the products below a product, by two lesser numbers -/
def Tart (A : Nat) : Prop := ∀ a, a < A → ∀ b, b < A → ∀ v, v < Nf.nim 4 a b → ∃ a' < a, ∃ b' < b, Nf.nim 4 (a ^^^ a') (b ^^^ b') = Nf.nim 4 a b ^^^ v
theorem firstB_some {A B : Nat} (T : Tart A) {l : List Nat} (hx : ∀ p, p < B → Cn.Shaped Sx p ∧ num1 Sx p < A) (hy : ∀ p, p < B → Cn.Shaped Sy p ∧ num1 Sy p < A) (hB : ∀ c ∈ l, c / 16 < B ∧ c % 16 < B) (hz : ovr (fb Sx Sy) l ≠ 0) : ∃ t, firstB Sx Sy l = some t := by
  obtain ⟨c, hc, hlt⟩ := ovr_less hz
  have hcB := hB c hc
  obtain ⟨a', ha, b', hb, e⟩ := T _ (hx _ hcB.1).2 _ (hy _ hcB.2).2 _ hlt
  obtain ⟨xs, h1, e1⟩ := num1_reach (hx _ hcB.1).1 ha
  obtain ⟨ys, h2, e2⟩ := num1_reach (hy _ hcB.2).1 hb
  refine first_is hc h1 h2 ?_
  unfold fp
  rw [e1, e2, e]
  show fb Sx Sy c ^^^ (fb Sx Sy c ^^^ _) = _
  rw [← Nat.xor_assoc, Nat.xor_self, Nat.zero_xor]
end
theorem iN_inj {a b : Nat} (h : iN a = iN b) : a = b := by injection h with h; omega
theorem in_nl (x : Nat) (xs : List Nat) : inD (iN x) (nl xs) = .ok (.bl (decide (x ∈ xs))) := by
  rw [inD_l (n := 0) (nd_int _) (nd_map (fun n => nd_int _) xs)]
  congr 2
  refine decide_eq_decide.mpr ⟨fun h => ?_, fun h => List.mem_map.mpr ⟨x, h, rfl⟩⟩
  obtain ⟨y, hy, e⟩ := List.mem_map.mp h
  rw [← iN_inj e]; exact hy
theorem nd_pr (c : Nat) : num (pr c) = true ∧ dep (pr c) ≤ 1 := nd_tup (n := 0) (nd_cons (nd_int _) (nd_cons (nd_int _) nd_nil))
theorem nd_bd (l : List Nat) : nd 1 (l.map pr) := nd_map nd_pr l
theorem pr_inj {a b : Nat} (h : pr a = pr b) : a = b := by
  injection h with h
  injection h with h1 h2
  injection h2 with h2 h3
  have := iN_inj h1
  have := iN_inj h2
  omega
theorem in_bd (c : Nat) (l : List Nat) : inD (pr c) (bd l) = .ok (.bl (decide (c ∈ l))) := by
  rw [inD_l (n := 1) (nd_pr c) (nd_bd l)]
  congr 2
  refine decide_eq_decide.mpr ⟨fun h => ?_, fun h => List.mem_map.mpr ⟨c, h, rfl⟩⟩
  obtain ⟨y, hy, e⟩ := List.mem_map.mp h
  rw [← pr_inj e]; exact hy
theorem nin_bd (c : Nat) (l : List Nat) : ninD (pr c) (bd l) = .ok (.bl (!decide (c ∈ l))) := by
  have h := in_bd c l
  unfold inD at h
  unfold ninD
  split at h
  · rename_i k hk
    injection h with h
    injection h with h
    rw [h]
  · cases h
/-- the nine places -/
def cc (k : Nat) : Nat := 16 * (k / 3) + k % 3
def Lm (m : Nat) : List Nat := ((List.range 9).filter fun k => m.testBit k).map cc
theorem cc_inj {a b : Nat} (h : cc a = cc b) : a = b := by unfold cc at h; omega
theorem mem_Lm {m k : Nat} (hk : k < 9) : cc k ∈ Lm m ↔ m.testBit k = true := by
  unfold Lm
  rw [List.mem_map]
  constructor
  · rintro ⟨j, hj, e⟩
    rw [← cc_inj e]
    exact (List.mem_filter.mp hj).2
  · exact fun h => ⟨k, List.mem_filter.mpr ⟨List.mem_range.mpr hk, h⟩, rfl⟩
theorem Lm_cell {m c : Nat} (h : c ∈ Lm m) : c / 16 < 3 ∧ c % 16 < 3 := by
  obtain ⟨k, hk, rfl⟩ := List.mem_map.mp h
  have := List.mem_range.mp (List.mem_filter.mp hk).1
  unfold cc
  omega
theorem Lm_len (m : Nat) : (Lm m).length ≤ 9 := by
  unfold Lm
  rw [List.length_map]
  have := List.length_filter_le (fun k => m.testBit k) (List.range 9)
  rw [List.length_range] at this
  exact this
theorem riseB_weak : ∀ {b b' : Int} {l : List Nat}, b' ≤ b → RiseB b l → RiseB b' l
  | _, _, [], _, _ => trivial
  | b, b', a :: r, h, hr => ⟨by have := hr.1; omega, hr.2⟩
theorem riseB_filter (p : Nat → Bool) : ∀ (n k : Nat), k + n ≤ 9 → RiseB ((cc k : Int) - 1) (((List.range' k n).filter p).map cc)
  | 0, k, _ => trivial
  | n + 1, k, h => by
    have ih := riseB_filter p n (k + 1) (by omega)
    have e : (cc k : Int) ≤ (cc (k + 1) : Int) - 1 := by unfold cc; omega
    rw [List.range'_succ]
    cases hp : p k with
    | true =>
      rw [List.filter_cons_of_pos hp]
      exact ⟨by omega, by unfold cc; omega, riseB_weak e ih⟩
    | false =>
      rw [List.filter_cons_of_neg (by rw [hp]; exact Bool.false_ne_true)]
      exact riseB_weak (by omega) ih
theorem Lm_rise (m : Nat) : RiseB (-16) (Lm m) := by
  have := riseB_filter (fun k => m.testBit k) 9 0 (by omega)
  unfold Lm
  rw [List.range_eq_range']
  exact riseB_weak (by unfold cc; omega) this
/-- the figures by twos of a list -/
theorem bit_ovr (q : Nat → Bool) (k : Nat) : ∀ n, (ovr (fun k => 2 ^ k) ((List.range n).filter q)).testBit k = (decide (k < n) && q k)
  | 0 => by simp [ovr_nil]
  | n + 1 => by
    rw [List.range_succ, List.filter_append, ovr_append, Nat.testBit_xor, bit_ovr q k n]
    by_cases hq : q n = true
    · rw [List.filter_cons_of_pos hq, List.filter_nil, ovr_cons, ovr_nil, Nat.xor_zero, Nat.testBit_two_pow]
      by_cases e : n = k
      · subst e; simp [hq]
      · by_cases e2 : k < n
        · have : k < n + 1 := by omega
          simp [e, e2, this]
        · have : ¬ k < n + 1 := by omega
          simp [e, e2, this]
    · rw [List.filter_cons_of_neg hq, List.filter_nil, ovr_nil, Nat.zero_testBit]
      by_cases e : n = k
      · subst e
        have : q n = false := by cases h : q n <;> simp_all
        simp [this]
      · by_cases e2 : k < n
        · have : k < n + 1 := by omega
          simp [e2, this]
        · have : ¬ k < n + 1 := by omega
          simp [e2, this]
/-- what a turn turns -/
def tq (xs ys : List Nat) (k : Nat) : Bool := decide (k / 3 ∈ xs) && decide (k % 3 ∈ ys)
def tm (xs ys : List Nat) : Nat := ovr (fun k => 2 ^ k) ((List.range 9).filter (tq xs ys))
theorem tm_bit (xs ys : List Nat) {k : Nat} (hk : k < 9) : (tm xs ys).testBit k = tq xs ys k := by
  unfold tm
  rw [bit_ovr, decide_eq_true hk, Bool.true_and]
theorem tm_lt (xs ys : List Nat) : tm xs ys < 512 := @ovr_lt (fun k => 2 ^ k) 9 _ fun k hk => by
  have := List.mem_range.mp (List.mem_filter.mp hk).1
  exact Nat.pow_lt_pow_right (by decide) this
/-- where the highest figure is turned off, the number gets less -/
theorem xor_less {m t i : Nat} (ht : t < 2 ^ (i + 1)) (hb : t.testBit i = true) (hm : m.testBit i = true) : m ^^^ t < m := by
  rw [Nat.testBit_eq_decide_div_mod_eq, decide_eq_true_eq] at hb hm
  have e1 : (m ^^^ t) / 2 ^ (i + 1) = m / 2 ^ (i + 1) := by
    rw [Nat.xor_div_two_pow, Nat.div_eq_of_lt ht, Nat.xor_zero]
  have e2 : (m ^^^ t) / 2 ^ i % 2 = 0 := by
    rw [Nat.xor_div_two_pow]
    have o1 := @Nat.xor_mod_two_eq_one (m / 2 ^ i) (t / 2 ^ i)
    omega
  have e3 : ∀ x : Nat, x / 2 ^ (i + 1) = x / 2 ^ i / 2 := fun x => by rw [Nat.pow_succ, Nat.div_div_eq_div_mul]
  rw [e3, e3] at e1
  refine Nat.lt_of_not_le fun hle => ?_
  have := Nat.div_le_div_right (c := 2 ^ i) hle
  omega
theorem turned_less {m k : Nat} {xs ys : List Nat} (hk : k < 9) (hm : m.testBit k = true) (hx : xs = xs.dropLast ++ [k / 3] ∧ ∀ q ∈ xs.dropLast, q < k / 3) (hy : ys = ys.dropLast ++ [k % 3] ∧ ∀ q ∈ ys.dropLast, q < k % 3) : m ^^^ tm xs ys < m := by
  have mx : ∀ q, q ∈ xs → q ≤ k / 3 := fun q hq => by
    rw [hx.1] at hq
    rcases List.mem_append.mp hq with hq | hq
    · have := hx.2 q hq; omega
    · rw [List.mem_singleton] at hq; omega
  have my : ∀ q, q ∈ ys → q ≤ k % 3 := fun q hq => by
    rw [hy.1] at hq
    rcases List.mem_append.mp hq with hq | hq
    · have := hy.2 q hq; omega
    · rw [List.mem_singleton] at hq; omega
  refine xor_less (i := k) (@ovr_lt (fun k => 2 ^ k) (k + 1) _ fun j hj => ?_) ?_ hm
  · have h2 := (List.mem_filter.mp hj).2
    unfold tq at h2
    rw [Bool.and_eq_true, decide_eq_true_eq, decide_eq_true_eq] at h2
    have := mx _ h2.1
    have := my _ h2.2
    exact Nat.pow_lt_pow_right (by decide) (by omega)
  · rw [tm_bit xs ys hk]
    unfold tq
    have h1 : k / 3 ∈ xs := by rw [hx.1]; simp
    have h2 : k % 3 ∈ ys := by rw [hy.1]; simp
    rw [decide_eq_true h1, decide_eq_true h2]; rfl
section
variable {f : Nat → Nat}
theorem ovr_map (g : Nat → Nat) : ∀ l : List Nat, ovr f (l.map g) = ovr (fun k => f (g k)) l
  | [] => rfl
  | a :: r => by rw [List.map_cons, ovr_cons, ovr_cons, ovr_map g r]
theorem ovr_zero : ∀ l : List Nat, ovr (fun _ => 0) l = 0
  | [] => rfl
  | a :: r => by rw [ovr_cons, ovr_zero r]; rfl
theorem ovr_filter (q : Nat → Bool) : ∀ l : List Nat, ovr f (l.filter q) = ovr (fun k => if q k = true then f k else 0) l
  | [] => rfl
  | a :: r => by
    cases h : q a with
    | true => rw [List.filter_cons_of_pos h, ovr_cons, ovr_cons, if_pos h, ovr_filter q r]
    | false => rw [List.filter_cons_of_neg (by rw [h]; exact Bool.false_ne_true), ovr_cons, if_neg (by rw [h]; exact Bool.false_ne_true), Nat.zero_xor, ovr_filter q r]
theorem ovr_xor (g : Nat → Nat) : ∀ l : List Nat, ovr (fun k => f k ^^^ g k) l = ovr f l ^^^ ovr g l
  | [] => by simp [ovr_nil]
  | a :: r => by
    rw [ovr_cons, ovr_cons, ovr_cons, ovr_xor g r]
    rw [Nat.xor_assoc, Nat.xor_assoc, ← Nat.xor_assoc (g a), Nat.xor_comm (g a), Nat.xor_assoc]
theorem ovr_bits (m t : Nat) : ovr f (Lm (m ^^^ t)) = ovr f (Lm m) ^^^ ovr f (Lm t) := by
  unfold Lm
  rw [ovr_map, ovr_map, ovr_map, ovr_filter, ovr_filter, ovr_filter, ← ovr_xor]
  apply ovr_congr
  intro k _
  rw [Nat.testBit_xor]
  cases m.testBit k <;> cases t.testBit k <;> simp
end
section
variable {Sx Sy : Nat → List (List Nat)}
theorem three {f : Nat → Nat} {xs : List Nat} (h : xs = (List.range 3).filter fun x => decide (x ∈ xs)) : ovr f xs = (if 0 ∈ xs then f 0 else 0) ^^^ ((if 1 ∈ xs then f 1 else 0) ^^^ (if 2 ∈ xs then f 2 else 0)) := by
  have e : ovr f xs = ovr f ((List.range 3).filter fun x => decide (x ∈ xs)) := by rw [← h]
  rw [e, ovr_filter]
  show ovr _ [0, 1, 2] = _
  rw [ovr_cons, ovr_cons, ovr_cons, ovr_nil, Nat.xor_zero]
  simp only [decide_eq_true_eq]
theorem nim_if (p q : Prop) [Decidable p] [Decidable q] (a b : Nat) : Nf.nim 4 (if p then a else 0) (if q then b else 0) = if p ∧ q then Nf.nim 4 a b else 0 := by
  by_cases hp : p
  · by_cases hq : q
    · rw [if_pos hp, if_pos hq, if_pos ⟨hp, hq⟩]
    · rw [if_neg hq, if_neg (fun z : p ∧ q => hq z.2), Nf.nim_comm, Nf.nim_zero]
  · rw [if_neg hp, if_neg (fun z : p ∧ q => hp z.1), Nf.nim_zero]
theorem xor9 (a b c d e f g h i : Nat) : a ^^^ (b ^^^ (c ^^^ (d ^^^ (e ^^^ (f ^^^ (g ^^^ (h ^^^ i))))))) = (a ^^^ (b ^^^ c)) ^^^ ((d ^^^ (e ^^^ f)) ^^^ (g ^^^ (h ^^^ i))) := by
  simp only [Nat.xor_assoc]
theorem turn_sum {xs ys : List Nat} (hx : xs = (List.range 3).filter fun x => decide (x ∈ xs)) (hy : ys = (List.range 3).filter fun x => decide (x ∈ ys)) : ovr (fb Sx Sy) (Lm (tm xs ys)) = fp Sx Sy (xs, ys) := by
  unfold fp
  dsimp only
  rw [three hx, three hy]
  unfold Lm
  rw [ovr_map, ovr_filter]
  have e : ovr (fun k => if (tm xs ys).testBit k = true then fb Sx Sy (cc k) else 0) (List.range 9) = ovr (fun k => if k / 3 ∈ xs ∧ k % 3 ∈ ys then Nf.nim 4 (num1 Sx (k / 3)) (num1 Sy (k % 3)) else 0) (List.range 9) := by
    apply ovr_congr
    intro k hk
    have hk := List.mem_range.mp hk
    rw [tm_bit xs ys hk]
    have h1 : cc k / 16 = k / 3 := by unfold cc; omega
    have h2 : cc k % 16 = k % 3 := by unfold cc; omega
    unfold tq fb
    rw [h1, h2]
    simp only [Bool.and_eq_true, decide_eq_true_eq]
  rw [e]
  show ovr _ [0, 1, 2, 3, 4, 5, 6, 7, 8] = _
  simp only [ovr_cons, ovr_nil, Nat.xor_zero, Nat.reduceDiv, Nat.reduceMod]
  have r : ∀ a b c d : Nat, Nf.nim 4 d (a ^^^ (b ^^^ c)) = Nf.nim 4 d a ^^^ (Nf.nim 4 d b ^^^ Nf.nim 4 d c) := fun a b c d => by rw [Nf.nim_add, Nf.nim_add]
  have l : ∀ a b c d : Nat, Nf.nim 4 (a ^^^ (b ^^^ c)) d = Nf.nim 4 a d ^^^ (Nf.nim 4 b d ^^^ Nf.nim 4 c d) := fun a b c d => by rw [Nf.nim_comm, r, Nf.nim_comm 4 d a, Nf.nim_comm 4 d b, Nf.nim_comm 4 d c]
  rw [l, r, r, r]
  simp only [nim_if]
  exact xor9 _ _ _ _ _ _ _ _ _
end
/-- the law's board -/
def lbody : SFn := (sSeq (sIf (eOp eqD (eOp modD (eV 0) (eC (.int 2))) (eC (.int 1)))
    (sApp 1 (eTup (aCons (eOp fdivD (eV 2) (eC (.int 3))) (aCons (eOp modD (eV 2) (eC (.int 3))) aNil))))
    sNil)
    (sAsg 0 (eOp fdivD (eV 0) (eC (.int 2)))))
theorem half_pow (c : Int) (k : Nat) : c / 2 ^ k / 2 = c / 2 ^ (k + 1) := by
  rw [Int.pow_succ, Int.ediv_ediv_of_nonneg (by exact Int.le_of_lt (Int.pow_pos (by decide)))]
def Lc (c : Int) (n : Nat) : List Nat := ((List.range n).filter fun k => decide (c / 2 ^ k % 2 = 1)).map cc
theorem Lc_len (c : Int) (n : Nat) : (Lc c n).length ≤ n := by
  unfold Lc
  rw [List.length_map]
  have := List.length_filter_le (fun k => decide (c / 2 ^ k % 2 = 1)) (List.range n)
  rw [List.length_range] at this
  exact this
theorem cc_pr {k : Nat} (hk : k < 9) : D.tup [.int ((k : Int) / 3), .int ((k : Int) % 3)] = pr (cc k) := by
  show _ = D.tup [.int ((cc k / 16 : Nat) : Int), .int ((cc k % 16 : Nat) : Int)]
  have h1 : cc k / 16 = k / 3 := by unfold cc; omega
  have h2 : cc k % 16 = k % 3 := by unfold cc; omega
  rw [h1, h2]
  rfl
theorem lbody_turn (c : Int) (k : Nat) (hk : k < 9) : lbody [.val (.int (c / 2 ^ k)), .own (bd (Lc c k)), .val (iN k)] = .nx [.val (.int (c / 2 ^ (k + 1))), .own (bd (Lc c (k + 1))), .val (iN k)] := by
  have hp := half_pow c k
  have hl := Lc_len c k
  unfold lbody
  by_cases h : c / 2 ^ k % 2 = 1
  · have e : bd (Lc c (k + 1)) = .lst ((Lc c k).map pr ++ [pr (cc k)]) := by
      unfold Lc
      have e1 : [k].filter (fun k => decide (c / 2 ^ k % 2 = 1)) = [k] := by simp [h]
      rw [List.range_succ, List.filter_append, e1, List.map_append]
      show D.lst (List.map pr _) = _
      rw [List.map_append]
      rfl
    simp only [Cn.runF_a, Cn.sSeq_a, Cn.sIf_a, Cn.sAsg_a, Cn.sOwn_a, Cn.sRet_a, Cn.sRetO_a, Cn.sNil_a, Cn.sRaise_a, Cn.sExpr_a, Cn.sFrz_a, Cn.sDrop_a, Cn.frz_a, Cn.sApp_a, Cn.sExt_a, Cn.sPut_a, Cn.sPutD_a, Cn.sFor_a, Cn.sWhile_a, Cn.eV_a, Cn.eO_a, Cn.eC_a, Cn.eOp_a, Cn.eUn_a, Cn.eAnd_a, Cn.eOr_a, Cn.eChain_a, Cn.eLst_a, Cn.eTup_a, Cn.eCall_a, Cn.eCallB_a, Cn.eSl_a, Cn.eComp_a, Cn.eYes_a, Cn.aNil_a, Cn.aCons_a, Cn.oNone_a, Cn.oSome_a, Cn.eDict1_a, Cn.iL_a, Cn.iT_a, Cn.iR1_a, Cn.iR2_a, Cn.iR3_a, Cn.tgN_a, Cn.bind_ok, Cn.bind_ex, Cn.rOut_ok, Cn.rOut_ex, List.map_cons, List.map_nil, List.length_cons, List.length_nil, List.cons_append, List.nil_append, List.replicate, List.set, List.getElem?_cons_zero, List.getElem?_cons_succ, Nat.reduceAdd, Nat.reduceSub, Cn.addD, Cn.subD, Cn.negD, Cn.notD, Cn.ltD, Cn.gtD, Cn.geD, Cn.leD, Cn.lenD, Cn.intD, Cn.listD, Cn.seqD, Cn.tupD, Cn.isi_ii, Cn.isi_ib, Cn.isi_bb, Cn.isi_ll, Cn.isi_tt, Cn.isi_ss, Cn.eqD_ii, Cn.neD_ii, Cn.eqD_ss, Cn.neD_ss, Cn.eqD_bb, Cn.neD_bb, decide_true, decide_false, Bool.not_true, Bool.not_false, modD_pos (show (0 : Int) < 2 by decide), modD_pos (show (0 : Int) < 3 by decide), fdivD_pos (show (0 : Int) < 2 ∧ (2 : Int) < 1073741824 by decide), fdivD_pos (show (0 : Int) < 3 ∧ (3 : Int) < 1073741824 by decide), decide_eq_true h, hp, List.length_map, if_pos (lt_LIM (show (Lc c k).length < 1000000 by omega)), cc_pr hk]
    rw [e]
  · have e : bd (Lc c (k + 1)) = bd (Lc c k) := by
      unfold Lc
      have e1 : [k].filter (fun k => decide (c / 2 ^ k % 2 = 1)) = [] := by simp [h]
      rw [List.range_succ, List.filter_append, e1, List.append_nil]
    rw [e]
    simp only [Cn.runF_a, Cn.sSeq_a, Cn.sIf_a, Cn.sAsg_a, Cn.sOwn_a, Cn.sRet_a, Cn.sRetO_a, Cn.sNil_a, Cn.sRaise_a, Cn.sExpr_a, Cn.sFrz_a, Cn.sDrop_a, Cn.frz_a, Cn.sApp_a, Cn.sExt_a, Cn.sPut_a, Cn.sPutD_a, Cn.sFor_a, Cn.sWhile_a, Cn.eV_a, Cn.eO_a, Cn.eC_a, Cn.eOp_a, Cn.eUn_a, Cn.eAnd_a, Cn.eOr_a, Cn.eChain_a, Cn.eLst_a, Cn.eTup_a, Cn.eCall_a, Cn.eCallB_a, Cn.eSl_a, Cn.eComp_a, Cn.eYes_a, Cn.aNil_a, Cn.aCons_a, Cn.oNone_a, Cn.oSome_a, Cn.eDict1_a, Cn.iL_a, Cn.iT_a, Cn.iR1_a, Cn.iR2_a, Cn.iR3_a, Cn.tgN_a, Cn.bind_ok, Cn.bind_ex, Cn.rOut_ok, Cn.rOut_ex, List.map_cons, List.map_nil, List.length_cons, List.length_nil, List.cons_append, List.nil_append, List.replicate, List.set, List.getElem?_cons_zero, List.getElem?_cons_succ, Nat.reduceAdd, Nat.reduceSub, Cn.addD, Cn.subD, Cn.negD, Cn.notD, Cn.ltD, Cn.gtD, Cn.geD, Cn.leD, Cn.lenD, Cn.intD, Cn.listD, Cn.seqD, Cn.tupD, Cn.isi_ii, Cn.isi_ib, Cn.isi_bb, Cn.isi_ll, Cn.isi_tt, Cn.isi_ss, Cn.eqD_ii, Cn.neD_ii, Cn.eqD_ss, Cn.neD_ss, Cn.eqD_bb, Cn.neD_bb, decide_true, decide_false, Bool.not_true, Bool.not_false, modD_pos (show (0 : Int) < 2 by decide), fdivD_pos (show (0 : Int) < 2 ∧ (2 : Int) < 1073741824 by decide), decide_eq_false h, hp]
theorem Lc_Lm (c : Int) : Lc c 9 = Lm (c % 512).toNat := by
  unfold Lc Lm
  congr 1
  apply List.filter_congr
  intro k hk
  have hk := List.mem_range.mp hk
  rw [Nat.testBit_eq_decide_div_mod_eq]
  have h : k = 0 ∨ k = 1 ∨ k = 2 ∨ k = 3 ∨ k = 4 ∨ k = 5 ∨ k = 6 ∨ k = 7 ∨ k = 8 := by omega
  rcases h with rfl | rfl | rfl | rfl | rfl | rfl | rfl | rfl | rfl <;> exact decide_eq_decide.mpr (by omega)
theorem lboard_ok (c : Int) : fn__law_board [.int c] = .ok (bd (Lm (c % 512).toNat)) := by
  obtain ⟨s', h⟩ := forL_ix (J := Sl) (ga := tgN 2) (F := lbody) ((List.range 9).map iN) (fun i s => [.val (.int (c / 2 ^ i)), .own (bd (Lc c i)), s]) .no fun i hi s => by
    rw [List.length_map, List.length_range] at hi
    refine ⟨[.val (.int (c / 2 ^ i)), .own (bd (Lc c i)), .val (iN i)], .val (iN i), ?_, lbody_turn c i hi⟩
    simp only [List.getElem_map, List.getElem_range, tgN_a, List.set]
  rw [List.length_map, List.length_range, ← rgL_nat, Int.pow_zero, Int.ediv_one, Lc_Lm] at h
  have h' : forL (tgN 2) lbody (rgL 0 9) [.val (.int c), .own (.lst []), .no] = .nx [.val (.int (c / 2 ^ 9)), .own (bd (Lm (c % 512).toNat)), s'] := h
  unfold lbody at h'
  unfold fn__law_board b__law_board
  simp only [Cn.runF_a, Cn.sSeq_a, Cn.sIf_a, Cn.sAsg_a, Cn.sOwn_a, Cn.sRet_a, Cn.sRetO_a, Cn.sNil_a, Cn.sRaise_a, Cn.sExpr_a, Cn.sFrz_a, Cn.sDrop_a, Cn.frz_a, Cn.sApp_a, Cn.sExt_a, Cn.sPut_a, Cn.sPutD_a, Cn.sFor_a, Cn.sWhile_a, Cn.eV_a, Cn.eO_a, Cn.eC_a, Cn.eOp_a, Cn.eUn_a, Cn.eAnd_a, Cn.eOr_a, Cn.eChain_a, Cn.eLst_a, Cn.eTup_a, Cn.eCall_a, Cn.eCallB_a, Cn.eSl_a, Cn.eComp_a, Cn.eYes_a, Cn.aNil_a, Cn.aCons_a, Cn.oNone_a, Cn.oSome_a, Cn.eDict1_a, Cn.iL_a, Cn.iT_a, Cn.iR1_a, Cn.iR2_a, Cn.iR3_a, Cn.tgN_a, Cn.bind_ok, Cn.bind_ex, Cn.rOut_ok, Cn.rOut_ex, List.map_cons, List.map_nil, List.length_cons, List.length_nil, List.cons_append, List.nil_append, List.replicate, List.set, List.getElem?_cons_zero, List.getElem?_cons_succ, Nat.reduceAdd, Nat.reduceSub, Cn.addD, Cn.subD, Cn.negD, Cn.notD, Cn.ltD, Cn.gtD, Cn.geD, Cn.leD, Cn.lenD, Cn.intD, Cn.listD, Cn.seqD, Cn.tupD, Cn.isi_ii, Cn.isi_ib, Cn.isi_bb, Cn.isi_ll, Cn.isi_tt, Cn.isi_ss, Cn.eqD_ii, Cn.neD_ii, Cn.eqD_ss, Cn.neD_ss, Cn.eqD_bb, Cn.neD_bb, decide_true, decide_false, Bool.not_true, Bool.not_false, rg1_ok (show -1000000 ≤ (9 : Int) ∧ (9 : Int) ≤ 1000000 by decide), h']
theorem base_at {k : Nat} (h : k ≤ 3) : ixD (.lst [.int 2, .int 4, .int 16, .int 256]) (.int (((k + 1 : Nat) : Int) - 1)) = .ok (iN (Nf.W k)) := by
  have : k = 0 ∨ k = 1 ∨ k = 2 ∨ k = 3 := by omega
  rcases this with rfl | rfl | rfl | rfl <;> rfl
theorem ltimes_ok : ∀ (k n a b : Nat), k ≤ 4 → k < n → a < Nf.W k → b < Nf.W k → fn__law_times n [iN a, iN b, .int ((k : Int) - 1)] = .ok (iN (Nf.nim k a b))
  | k, 0, a, b, hk, hn, ha, hb => by omega
  | k, n + 1, a, b, hk, hn, ha, hb => by
    have wk := W_le hk
    show runF 7 (b__law_times (fn__law_times n)) _ = _
    unfold b__law_times
    by_cases h2 : a < 2 ∨ b < 2
    · have m : mulD (.int (a : Int)) (.int (b : Int)) = .ok (.int ((Nf.nim k a b : Nat) : Int)) := by
        rw [mulD_natl (by omega), small_mul ha hb h2]
      by_cases h0 : a < 2
      · simp only [Cn.runF_a, Cn.sSeq_a, Cn.sIf_a, Cn.sAsg_a, Cn.sOwn_a, Cn.sRet_a, Cn.sRetO_a, Cn.sNil_a, Cn.sRaise_a, Cn.sExpr_a, Cn.sFrz_a, Cn.sDrop_a, Cn.frz_a, Cn.sApp_a, Cn.sExt_a, Cn.sPut_a, Cn.sPutD_a, Cn.sFor_a, Cn.sWhile_a, Cn.eV_a, Cn.eO_a, Cn.eC_a, Cn.eOp_a, Cn.eUn_a, Cn.eAnd_a, Cn.eOr_a, Cn.eChain_a, Cn.eLst_a, Cn.eTup_a, Cn.eCall_a, Cn.eCallB_a, Cn.eSl_a, Cn.eComp_a, Cn.eYes_a, Cn.aNil_a, Cn.aCons_a, Cn.oNone_a, Cn.oSome_a, Cn.eDict1_a, Cn.iL_a, Cn.iT_a, Cn.iR1_a, Cn.iR2_a, Cn.iR3_a, Cn.tgN_a, Cn.bind_ok, Cn.bind_ex, Cn.rOut_ok, Cn.rOut_ex, List.map_cons, List.map_nil, List.length_cons, List.length_nil, List.cons_append, List.nil_append, List.replicate, List.set, List.getElem?_cons_zero, List.getElem?_cons_succ, Nat.reduceAdd, Nat.reduceSub, Cn.addD, Cn.subD, Cn.negD, Cn.notD, Cn.ltD, Cn.gtD, Cn.geD, Cn.leD, Cn.lenD, Cn.intD, Cn.listD, Cn.seqD, Cn.tupD, Cn.isi_ii, Cn.isi_ib, Cn.isi_bb, Cn.isi_ll, Cn.isi_tt, Cn.isi_ss, Cn.eqD_ii, Cn.neD_ii, Cn.eqD_ss, Cn.neD_ss, Cn.eqD_bb, Cn.neD_bb, decide_true, decide_false, Bool.not_true, Bool.not_false, decide_eq_true (show (a : Int) < 2 by omega), m]
      · simp only [Cn.runF_a, Cn.sSeq_a, Cn.sIf_a, Cn.sAsg_a, Cn.sOwn_a, Cn.sRet_a, Cn.sRetO_a, Cn.sNil_a, Cn.sRaise_a, Cn.sExpr_a, Cn.sFrz_a, Cn.sDrop_a, Cn.frz_a, Cn.sApp_a, Cn.sExt_a, Cn.sPut_a, Cn.sPutD_a, Cn.sFor_a, Cn.sWhile_a, Cn.eV_a, Cn.eO_a, Cn.eC_a, Cn.eOp_a, Cn.eUn_a, Cn.eAnd_a, Cn.eOr_a, Cn.eChain_a, Cn.eLst_a, Cn.eTup_a, Cn.eCall_a, Cn.eCallB_a, Cn.eSl_a, Cn.eComp_a, Cn.eYes_a, Cn.aNil_a, Cn.aCons_a, Cn.oNone_a, Cn.oSome_a, Cn.eDict1_a, Cn.iL_a, Cn.iT_a, Cn.iR1_a, Cn.iR2_a, Cn.iR3_a, Cn.tgN_a, Cn.bind_ok, Cn.bind_ex, Cn.rOut_ok, Cn.rOut_ex, List.map_cons, List.map_nil, List.length_cons, List.length_nil, List.cons_append, List.nil_append, List.replicate, List.set, List.getElem?_cons_zero, List.getElem?_cons_succ, Nat.reduceAdd, Nat.reduceSub, Cn.addD, Cn.subD, Cn.negD, Cn.notD, Cn.ltD, Cn.gtD, Cn.geD, Cn.leD, Cn.lenD, Cn.intD, Cn.listD, Cn.seqD, Cn.tupD, Cn.isi_ii, Cn.isi_ib, Cn.isi_bb, Cn.isi_ll, Cn.isi_tt, Cn.isi_ss, Cn.eqD_ii, Cn.neD_ii, Cn.eqD_ss, Cn.neD_ss, Cn.eqD_bb, Cn.neD_bb, decide_true, decide_false, Bool.not_true, Bool.not_false, decide_eq_false (show ¬ (a : Int) < 2 by omega), decide_eq_true (show (b : Int) < 2 by omega), m]
    · have n1 : ¬ (a : Int) < 2 := by omega
      have n2 : ¬ (b : Int) < 2 := by omega
      match k, hk, hn, ha, hb, wk with
      | 0, hk, hn, ha, hb, wk =>
        have : Nf.W 0 = 2 := rfl
        omega
      | k + 1, hk, hn, ha, hb, wk =>
        have wk' := W_le (show k ≤ 4 by omega)
        have wp := Nf.W_pos k
        have lo := base_at (show k ≤ 3 by omega)
        have hlev : ((k + 1 : Nat) : Int) - 1 - 1 = (k : Int) - 1 := by omega
        have ih := fun a b ha hb => ltimes_ok k n a b (by omega) (by omega) ha hb
        by_cases hs : a < Nf.W k ∧ b < Nf.W k
        · have s1 : (a : Int) < ((Nf.W k : Nat) : Int) := by omega
          have s2 : (b : Int) < ((Nf.W k : Nat) : Int) := by omega
          simp only [Cn.runF_a, Cn.sSeq_a, Cn.sIf_a, Cn.sAsg_a, Cn.sOwn_a, Cn.sRet_a, Cn.sRetO_a, Cn.sNil_a, Cn.sRaise_a, Cn.sExpr_a, Cn.sFrz_a, Cn.sDrop_a, Cn.frz_a, Cn.sApp_a, Cn.sExt_a, Cn.sPut_a, Cn.sPutD_a, Cn.sFor_a, Cn.sWhile_a, Cn.eV_a, Cn.eO_a, Cn.eC_a, Cn.eOp_a, Cn.eUn_a, Cn.eAnd_a, Cn.eOr_a, Cn.eChain_a, Cn.eLst_a, Cn.eTup_a, Cn.eCall_a, Cn.eCallB_a, Cn.eSl_a, Cn.eComp_a, Cn.eYes_a, Cn.aNil_a, Cn.aCons_a, Cn.oNone_a, Cn.oSome_a, Cn.eDict1_a, Cn.iL_a, Cn.iT_a, Cn.iR1_a, Cn.iR2_a, Cn.iR3_a, Cn.tgN_a, Cn.bind_ok, Cn.bind_ex, Cn.rOut_ok, Cn.rOut_ex, List.map_cons, List.map_nil, List.length_cons, List.length_nil, List.cons_append, List.nil_append, List.replicate, List.set, List.getElem?_cons_zero, List.getElem?_cons_succ, Nat.reduceAdd, Nat.reduceSub, Cn.addD, Cn.subD, Cn.negD, Cn.notD, Cn.ltD, Cn.gtD, Cn.geD, Cn.leD, Cn.lenD, Cn.intD, Cn.listD, Cn.seqD, Cn.tupD, Cn.isi_ii, Cn.isi_ib, Cn.isi_bb, Cn.isi_ll, Cn.isi_tt, Cn.isi_ss, Cn.eqD_ii, Cn.neD_ii, Cn.eqD_ss, Cn.neD_ss, Cn.eqD_bb, Cn.neD_bb, decide_true, decide_false, Bool.not_true, Bool.not_false, decide_eq_false n1, decide_eq_false n2, lo, decide_eq_true s1, decide_eq_true s2, hlev, ih a b hs.1 hs.2, Nf.nim_low k a b hs.1 hs.2]
        · have sx : ¬ ((a : Int) < ((Nf.W k : Nat) : Int)) ∨ ((a : Int) < ((Nf.W k : Nat) : Int)) ∧ ¬ ((b : Int) < ((Nf.W k : Nat) : Int)) := by omega
          have hW := Nf.W_succ k
          have a1 : a / Nf.W k < Nf.W k := Nat.div_lt_of_lt_mul (by rw [← hW]; exact ha)
          have b1 : b / Nf.W k < Nf.W k := Nat.div_lt_of_lt_mul (by rw [← hW]; exact hb)
          have a0 : a % Nf.W k < Nf.W k := Nat.mod_lt _ wp
          have b0 : b % Nf.W k < Nf.W k := Nat.mod_lt _ wp
          have hd : Nf.W k / 2 < Nf.W k := by omega
          have wb : 0 < Nf.W k ∧ Nf.W k < 1073741824 := by omega
          have d1 := @fdivD_nat a (Nf.W k) wb
          have d2 := @fdivD_nat b (Nf.W k) wb
          have m1 := @modD_nat a (Nf.W k) wb.1
          have m2 := @modD_nat b (Nf.W k) wb.1
          have d3 : fdivD (.int ((Nf.W k : Nat) : Int)) (.int 2) = .ok (.int ((Nf.W k / 2 : Nat) : Int)) := @fdivD_nat (Nf.W k) 2 (by decide)
          have i1 := ih _ _ a1 b1
          have i2 := ih _ _ a0 b0
          have i3 := ih _ _ a1 b0
          have i5 := ih _ _ a0 b1
          have i4 := ih (Nf.nim k (a / Nf.W k) (b / Nf.W k)) (Nf.W k / 2) (Nf.nim_lt k _ _) hd
          have hm := @mulD_natr (Nf.nim k (a / Nf.W k) (b / Nf.W k) ^^^ (Nf.nim k (a / Nf.W k) (b % Nf.W k) ^^^ Nf.nim k (a % Nf.W k) (b / Nf.W k))) (Nf.W k) (by have := wb.2; omega)
          rw [Nf.nim_four]
          rcases sx with s1 | ⟨s1, s2⟩
          · simp only [Cn.runF_a, Cn.sSeq_a, Cn.sIf_a, Cn.sAsg_a, Cn.sOwn_a, Cn.sRet_a, Cn.sRetO_a, Cn.sNil_a, Cn.sRaise_a, Cn.sExpr_a, Cn.sFrz_a, Cn.sDrop_a, Cn.frz_a, Cn.sApp_a, Cn.sExt_a, Cn.sPut_a, Cn.sPutD_a, Cn.sFor_a, Cn.sWhile_a, Cn.eV_a, Cn.eO_a, Cn.eC_a, Cn.eOp_a, Cn.eUn_a, Cn.eAnd_a, Cn.eOr_a, Cn.eChain_a, Cn.eLst_a, Cn.eTup_a, Cn.eCall_a, Cn.eCallB_a, Cn.eSl_a, Cn.eComp_a, Cn.eYes_a, Cn.aNil_a, Cn.aCons_a, Cn.oNone_a, Cn.oSome_a, Cn.eDict1_a, Cn.iL_a, Cn.iT_a, Cn.iR1_a, Cn.iR2_a, Cn.iR3_a, Cn.tgN_a, Cn.bind_ok, Cn.bind_ex, Cn.rOut_ok, Cn.rOut_ex, List.map_cons, List.map_nil, List.length_cons, List.length_nil, List.cons_append, List.nil_append, List.replicate, List.set, List.getElem?_cons_zero, List.getElem?_cons_succ, Nat.reduceAdd, Nat.reduceSub, Cn.addD, Cn.subD, Cn.negD, Cn.notD, Cn.ltD, Cn.gtD, Cn.geD, Cn.leD, Cn.lenD, Cn.intD, Cn.listD, Cn.seqD, Cn.tupD, Cn.isi_ii, Cn.isi_ib, Cn.isi_bb, Cn.isi_ll, Cn.isi_tt, Cn.isi_ss, Cn.eqD_ii, Cn.neD_ii, Cn.eqD_ss, Cn.neD_ss, Cn.eqD_bb, Cn.neD_bb, decide_true, decide_false, Bool.not_true, Bool.not_false, decide_eq_false n1, decide_eq_false n2, lo, decide_eq_false s1, d1, d2, d3, m1, m2, hlev, i1, i2, i3, i5, xorD_nat, i4, hm]
            rfl
          · simp only [Cn.runF_a, Cn.sSeq_a, Cn.sIf_a, Cn.sAsg_a, Cn.sOwn_a, Cn.sRet_a, Cn.sRetO_a, Cn.sNil_a, Cn.sRaise_a, Cn.sExpr_a, Cn.sFrz_a, Cn.sDrop_a, Cn.frz_a, Cn.sApp_a, Cn.sExt_a, Cn.sPut_a, Cn.sPutD_a, Cn.sFor_a, Cn.sWhile_a, Cn.eV_a, Cn.eO_a, Cn.eC_a, Cn.eOp_a, Cn.eUn_a, Cn.eAnd_a, Cn.eOr_a, Cn.eChain_a, Cn.eLst_a, Cn.eTup_a, Cn.eCall_a, Cn.eCallB_a, Cn.eSl_a, Cn.eComp_a, Cn.eYes_a, Cn.aNil_a, Cn.aCons_a, Cn.oNone_a, Cn.oSome_a, Cn.eDict1_a, Cn.iL_a, Cn.iT_a, Cn.iR1_a, Cn.iR2_a, Cn.iR3_a, Cn.tgN_a, Cn.bind_ok, Cn.bind_ex, Cn.rOut_ok, Cn.rOut_ex, List.map_cons, List.map_nil, List.length_cons, List.length_nil, List.cons_append, List.nil_append, List.replicate, List.set, List.getElem?_cons_zero, List.getElem?_cons_succ, Nat.reduceAdd, Nat.reduceSub, Cn.addD, Cn.subD, Cn.negD, Cn.notD, Cn.ltD, Cn.gtD, Cn.geD, Cn.leD, Cn.lenD, Cn.intD, Cn.listD, Cn.seqD, Cn.tupD, Cn.isi_ii, Cn.isi_ib, Cn.isi_bb, Cn.isi_ll, Cn.isi_tt, Cn.isi_ss, Cn.eqD_ii, Cn.neD_ii, Cn.eqD_ss, Cn.neD_ss, Cn.eqD_bb, Cn.neD_bb, decide_true, decide_false, Bool.not_true, Bool.not_false, decide_eq_false n1, decide_eq_false n2, lo, decide_eq_true s1, decide_eq_false s2, d1, d2, d3, m1, m2, hlev, i1, i2, i3, i5, xorD_nat, i4, hm]
            rfl
theorem law_times_ok {a b : Nat} (ha : a < 65536) (hb : b < 65536) : fn__law_times 6 [iN a, iN b, .int 3] = .ok (iN (Nf.nim 4 a b)) := ltimes_ok 4 6 a b (by decide) (by decide) ha hb
def tT : List (List Nat) := [[0, 0, 0, 0, 0, 0, 0, 0, 0, 0, 0, 0, 0, 0, 0, 0, 0], [0, 1, 2, 3, 4, 5, 6, 7, 8, 9, 10, 11, 12, 13, 14, 15, 16], [0, 2, 3, 1, 8, 10, 11, 9, 12, 14, 15, 13, 4, 6, 7, 5, 32], [0, 3, 1, 2, 12, 15, 13, 14, 4, 7, 5, 6, 8, 11, 9, 10, 48], [0, 4, 8, 12, 6, 2, 14, 10, 11, 15, 3, 7, 13, 9, 5, 1, 64], [0, 5, 10, 15, 2, 7, 8, 13, 3, 6, 9, 12, 1, 4, 11, 14, 80], [0, 6, 11, 13, 14, 8, 5, 3, 7, 1, 12, 10, 9, 15, 2, 4, 96], [0, 7, 9, 14, 10, 13, 3, 4, 15, 8, 6, 1, 5, 2, 12, 11, 112], [0, 8, 12, 4, 11, 3, 7, 15, 13, 5, 1, 9, 6, 14, 10, 2, 128], [0, 9, 14, 7, 15, 6, 1, 8, 5, 12, 11, 2, 10, 3, 4, 13, 144], [0, 10, 15, 5, 3, 9, 12, 6, 1, 11, 14, 4, 2, 8, 13, 7, 160], [0, 11, 13, 6, 7, 12, 10, 1, 9, 2, 4, 15, 14, 5, 3, 8, 176], [0, 12, 4, 8, 13, 1, 9, 5, 6, 10, 2, 14, 11, 7, 15, 3, 192], [0, 13, 6, 11, 9, 4, 15, 2, 14, 3, 8, 5, 7, 10, 1, 12, 208], [0, 14, 7, 9, 5, 11, 2, 12, 10, 4, 13, 3, 15, 1, 8, 6, 224], [0, 15, 5, 10, 1, 14, 4, 11, 2, 13, 7, 8, 3, 12, 6, 9, 240], [0, 16, 32, 48, 64, 80, 96, 112, 128, 144, 160, 176, 192, 208, 224, 240, 24]]
def tt (a b : Nat) : Nat := (tT.getD a []).getD b 0
theorem tt_ok : ∀ a, a < 17 → ∀ b, b < 17 → Nf.nim 3 a b = tt a b := by decide +kernel
def reachT (a b : Nat) : List Nat := (List.range a).flatMap fun x => (List.range b).map fun y => tt a y ^^^ (tt x b ^^^ tt x y)
def maskOf : List Nat → Nat
  | [] => 0
  | n :: r => 2 ^ n ||| maskOf r
theorem mask_bit : ∀ (l : List Nat) (v : Nat), (maskOf l).testBit v = true → v ∈ l
  | [], v, h => by
    unfold maskOf at h
    rw [Nat.zero_testBit] at h
    cases h
  | n :: r, v, h => by
    unfold maskOf at h
    rw [Nat.testBit_or, Bool.or_eq_true, Nat.testBit_two_pow, decide_eq_true_eq] at h
    rcases h with h | h
    · rw [h]; exact List.mem_cons_self ..
    · exact List.mem_cons_of_mem _ (mask_bit r v h)
theorem mask_full : ∀ a, a < 17 → ∀ b, b < 17 → maskOf (reachT a b) % 2 ^ tt a b = 2 ^ tt a b - 1 := by decide +kernel
theorem nim_mid {a b : Nat} (ha : a < 256) (hb : b < 256) : Nf.nim 4 a b = Nf.nim 3 a b := by
  have w3 : Nf.W 3 = 256 := by decide
  exact Nf.nim_low 3 a b (by omega) (by omega)
theorem nim_addl (k a b c : Nat) : Nf.nim k (a ^^^ b) c = Nf.nim k a c ^^^ Nf.nim k b c := by
  rw [Nf.nim_comm, Nf.nim_add, Nf.nim_comm k c a, Nf.nim_comm k c b]
theorem tart17 : Tart 17 := by
  intro a ha b hb v hv
  have e : ∀ {a b : Nat}, a < 17 → b < 17 → Nf.nim 4 a b = tt a b := fun {a b} h1 h2 => by
    rw [nim_mid (by omega) (by omega), tt_ok a h1 b h2]
  have e0 := e ha hb
  rw [e0] at hv
  have hm : (maskOf (reachT a b)).testBit v = true := by
    have h1 : (maskOf (reachT a b) % 2 ^ tt a b).testBit v = (2 ^ tt a b - 1).testBit v := congrArg (fun n => Nat.testBit n v) (mask_full a ha b hb)
    rw [Nat.testBit_mod_two_pow, Nat.testBit_two_pow_sub_one, decide_eq_true hv, Bool.true_and] at h1
    exact h1
  obtain ⟨x, hx, h1⟩ := List.mem_flatMap.mp (mask_bit _ _ hm)
  obtain ⟨y, hy, rfl⟩ := List.mem_map.mp h1
  have hx := List.mem_range.mp hx
  have hy := List.mem_range.mp hy
  refine ⟨x, hx, y, hy, ?_⟩
  rw [Nf.nim_add, nim_addl, nim_addl, e0, e ha (show y < 17 by omega), e (show x < 17 by omega) hb, e (show x < 17 by omega) (show y < 17 by omega)]
  have c : tt x b ^^^ (tt a y ^^^ tt x y) = tt a y ^^^ (tt x b ^^^ tt x y) := by
    rw [← Nat.xor_assoc, Nat.xor_comm (tt x b), Nat.xor_assoc]
  rw [Nat.xor_assoc, c]
theorem le_LIM {n : Nat} (h : n ≤ 1000000) : n ≤ LIM := by rw [LIM_eq]; exact h
theorem foldl_app {α β : Type} (g : β → List α) : ∀ (l : List β) (fs : List α), l.foldl (fun fs b => fs ++ g b) fs = fs ++ l.flatMap g
  | [], fs => by simp
  | b :: r, fs => by rw [List.foldl_cons, foldl_app g r, List.flatMap_cons, List.append_assoc]
theorem foldl_snoc {α β : Type} (g : β → α) : ∀ (l : List β) (fs : List α), l.foldl (fun fs b => fs ++ [g b]) fs = fs ++ l.map g
  | [], fs => by simp
  | b :: r, fs => by rw [List.foldl_cons, foldl_snoc g r, List.map_cons, List.append_assoc]; rfl
theorem ll0 (a b : D) : ixD (.lst [a, b]) (.int 0) = .ok a := rfl
theorem ll1 (a b : D) : ixD (.lst [a, b]) (.int 1) = .ok b := rfl
theorem tw0 (t : List Nat × List Nat) : ixD (tw t) (.int 0) = .ok (nl t.1) := rfl
theorem tw1 (t : List Nat × List Nat) : ixD (tw t) (.int 1) = .ok (nl t.2) := rfl
theorem ix_nll {L : List (List Nat)} {p : Nat} (h : p < L.length) : ixD (nll L) (iN p) = .ok (nl (L.getD p [])) := by
  have e : atI (L.map nl) (p : Int) = some (nl (L.getD p [])) := by
    refine atI_nat ?_
    rw [List.getElem?_map, List.getD_eq_getElem?_getD, List.getElem?_eq_getElem h]
    rfl
  simp only [ixD, e]
structure Ok14 (r : D) (S : Nat → List (List Nat)) (B : Nat) : Prop where
  k : RuleOk r S B
  ls : ∀ p, p < B → fn__law_shapes [r, iN p] = .ok (nll (S p))
  ln : fn__law_numbers [r, iN B] = .ok (nl (nums S B))
  ok : ∀ p, p < B → ∀ s ∈ S p, s.Nodup ∧ s.length ≤ 16
  low : ∀ p, p < B → num1 S p < 17
  flat : tupF r = true
/-- the law's table -/
abbrev tab (Sx Sy : Nat → List (List Nat)) (B : Nat) : List (List Nat) := (nums Sx B).map fun a => (nums Sy B).map fun b => Nf.nim 4 a b
def tb1 : SFn := (sApp 5 (eComp (iL (eV 4)) 7 eYes (eCall (fn__law_times 6) (aCons (eV 6) (aCons (eV 7) (aCons (eC (.int 3)) aNil))))))
theorem nums_low {r : D} {S : Nat → List (List Nat)} {B : Nat} (X : Ok14 r S B) : ∀ n ∈ nums S B, n < 17 := by
  intro n hn
  obtain ⟨p, hp, rfl⟩ := List.mem_iff_getElem.mp hn
  have hp' : p < B := by rw [nums_len] at hp; exact hp
  have := X.low p hp'
  rw [← nums_get S hp', List.getD_eq_getElem?_getD, List.getElem?_eq_getElem hp] at this
  exact this
theorem tb1_turn {a : Nat} {ny : List Nat} (ha : a < 65536) (hy : ∀ b ∈ ny, b < 65536) (hl : ny.length ≤ 1000) (T : List (List Nat)) (hT : T.length ≤ 1000) (s1 s2 s3 : Sl) :
    tb1 [.no, s1, s2, s3, .val (nl ny), .own (nll T), .val (iN a), .no, .no, .no, .no, .no, .no, .no, .no] =
      .nx [.no, s1, s2, s3, .val (nl ny), .own (nll (T ++ [ny.map fun b => Nf.nim 4 a b])), .val (iN a), .no, .no, .no, .no, .no, .no, .no, .no] := by
  have hc : compL 7 eYes (eCall (fn__law_times 6) (aCons (eV 6) (aCons (eV 7) (aCons (eC (.int 3)) aNil)))) [.no, s1, s2, s3, .val (nl ny), .own (nll T), .val (iN a), .no, .no, .no, .no, .no, .no, .no, .no] (ny.map iN) = .ok ((ny.map fun b => Nf.nim 4 a b).map iN) := by
    rw [compL_all (g := fun d => match d with | .int i => iN (Nf.nim 4 a i.toNat) | d => d)]
    · rw [List.map_map, List.map_map]; rfl
    · intro d hd
      obtain ⟨b, hb, rfl⟩ := List.mem_map.mp hd
      simp only [Cn.runF_a, Cn.sSeq_a, Cn.sIf_a, Cn.sAsg_a, Cn.sOwn_a, Cn.sRet_a, Cn.sRetO_a, Cn.sNil_a, Cn.sRaise_a, Cn.sExpr_a, Cn.sFrz_a, Cn.sDrop_a, Cn.frz_a, Cn.sApp_a, Cn.sExt_a, Cn.sPut_a, Cn.sPutD_a, Cn.sFor_a, Cn.sWhile_a, Cn.eV_a, Cn.eO_a, Cn.eC_a, Cn.eOp_a, Cn.eUn_a, Cn.eAnd_a, Cn.eOr_a, Cn.eChain_a, Cn.eLst_a, Cn.eTup_a, Cn.eCall_a, Cn.eCallB_a, Cn.eSl_a, Cn.eComp_a, Cn.eYes_a, Cn.aNil_a, Cn.aCons_a, Cn.oNone_a, Cn.oSome_a, Cn.eDict1_a, Cn.iL_a, Cn.iT_a, Cn.iR1_a, Cn.iR2_a, Cn.iR3_a, Cn.tgN_a, Cn.bind_ok, Cn.bind_ex, Cn.rOut_ok, Cn.rOut_ex, List.map_cons, List.map_nil, List.length_cons, List.length_nil, List.cons_append, List.nil_append, List.replicate, List.set, List.getElem?_cons_zero, List.getElem?_cons_succ, Nat.reduceAdd, Nat.reduceSub, Cn.addD, Cn.subD, Cn.negD, Cn.notD, Cn.ltD, Cn.gtD, Cn.geD, Cn.leD, Cn.lenD, Cn.intD, Cn.listD, Cn.seqD, Cn.tupD, Cn.isi_ii, Cn.isi_ib, Cn.isi_bb, Cn.isi_ll, Cn.isi_tt, Cn.isi_ss, Cn.eqD_ii, Cn.neD_ii, Cn.eqD_ss, Cn.neD_ss, Cn.eqD_bb, Cn.neD_bb, decide_true, decide_false, Bool.not_true, Bool.not_false, law_times_ok ha (hy b hb)]
      rfl
  unfold tb1
  simp only [Cn.runF_a, Cn.sSeq_a, Cn.sIf_a, Cn.sAsg_a, Cn.sOwn_a, Cn.sRet_a, Cn.sRetO_a, Cn.sNil_a, Cn.sRaise_a, Cn.sExpr_a, Cn.sFrz_a, Cn.sDrop_a, Cn.frz_a, Cn.sApp_a, Cn.sExt_a, Cn.sPut_a, Cn.sPutD_a, Cn.sFor_a, Cn.sWhile_a, Cn.eV_a, Cn.eO_a, Cn.eC_a, Cn.eOp_a, Cn.eUn_a, Cn.eAnd_a, Cn.eOr_a, Cn.eChain_a, Cn.eLst_a, Cn.eTup_a, Cn.eCall_a, Cn.eCallB_a, Cn.eSl_a, Cn.eComp_a, Cn.eYes_a, Cn.aNil_a, Cn.aCons_a, Cn.oNone_a, Cn.oSome_a, Cn.eDict1_a, Cn.iL_a, Cn.iT_a, Cn.iR1_a, Cn.iR2_a, Cn.iR3_a, Cn.tgN_a, Cn.bind_ok, Cn.bind_ex, Cn.rOut_ok, Cn.rOut_ex, List.map_cons, List.map_nil, List.length_cons, List.length_nil, List.cons_append, List.nil_append, List.replicate, List.set, List.getElem?_cons_zero, List.getElem?_cons_succ, Nat.reduceAdd, Nat.reduceSub, Cn.addD, Cn.subD, Cn.negD, Cn.notD, Cn.ltD, Cn.gtD, Cn.geD, Cn.leD, Cn.lenD, Cn.intD, Cn.listD, Cn.seqD, Cn.tupD, Cn.isi_ii, Cn.isi_ib, Cn.isi_bb, Cn.isi_ll, Cn.isi_tt, Cn.isi_ss, Cn.eqD_ii, Cn.neD_ii, Cn.eqD_ss, Cn.neD_ss, Cn.eqD_bb, Cn.neD_bb, decide_true, decide_false, Bool.not_true, Bool.not_false, seq_nl, List.length_map, if_pos (le_LIM (show ny.length ≤ 1000000 by omega)), hc, if_pos (lt_LIM (show T.length < 1000000 by omega))]
  have hn : nll (T ++ [ny.map fun b => Nf.nim 4 a b]) = .lst (T.map nl ++ [nl (ny.map fun b => Nf.nim 4 a b)]) := by
    show D.lst (List.map nl (T ++ [_])) = _
    rw [List.map_append]
    rfl
  rw [hn]
theorem table_ok {rx ry : D} {Sx Sy : Nat → List (List Nat)} {B : Nat} (X : Ok14 rx Sx B) (Y : Ok14 ry Sy B) (hB : B ≤ 16) (s1 s2 s3 : Sl) : ∃ s6, forL (tgN 6) tb1 ((nums Sx B).map iN) [.no, s1, s2, s3, .val (nl (nums Sy B)), .own (.lst []), .no, .no, .no, .no, .no, .no, .no, .no, .no] =
    .nx [.no, s1, s2, s3, .val (nl (nums Sy B)), .own (nll (tab Sx Sy B)), s6, .no, .no, .no, .no, .no, .no, .no, .no] := by
  obtain ⟨s6, h, _⟩ := fold_loop (ga := tgN 6) (F := tb1) (J := Sl) (P := fun i (T : List (List Nat)) => T.length ≤ i) (N := 1000) (enc := iN)
    (st := fun T s => [.no, s1, s2, s3, .val (nl (nums Sy B)), .own (nll T), s, .no, .no, .no, .no, .no, .no, .no, .no]) (nxt := fun T a => T ++ [(nums Sy B).map fun b => Nf.nim 4 a b]) (nums Sx B) 0 [] .no (by rw [nums_len]; omega) (Nat.le_refl 0) fun i T s a hi ha hP =>
      ⟨_, .val (iN a), rfl, tb1_turn (by have := nums_low X a ha; omega) (fun b hb => by have := nums_low Y b hb; omega) (by rw [nums_len]; omega) T (by omega) s1 s2 s3, by rw [List.length_append, List.length_singleton]; omega⟩
  rw [foldl_snoc, List.nil_append] at h
  exact ⟨s6, h⟩
section
variable {Sx Sy : Nat → List (List Nat)} {B : Nat}
theorem tab_at {c : Nat} (hc : c / 16 < B ∧ c % 16 < B) : ∃ row, ixD (nll (tab Sx Sy B)) (iN (c / 16)) = .ok (nl row) ∧ ixD (nl row) (iN (c % 16)) = .ok (iN (fb Sx Sy c)) := by
  have lx : c / 16 < (nums Sx B).length := by rw [nums_len]; exact hc.1
  have ly : c % 16 < (nums Sy B).length := by rw [nums_len]; exact hc.2
  have gx := nums_get Sx hc.1
  have gy := nums_get Sy hc.2
  rw [List.getD_eq_getElem?_getD, List.getElem?_eq_getElem lx] at gx
  rw [List.getD_eq_getElem?_getD, List.getElem?_eq_getElem ly] at gy
  have gx : (nums Sx B)[c / 16] = num1 Sx (c / 16) := gx
  have gy : (nums Sy B)[c % 16] = num1 Sy (c % 16) := gy
  refine ⟨(nums Sy B).map fun b => Nf.nim 4 (num1 Sx (c / 16)) b, ?_, ?_⟩
  · have h := @ix_nll (tab Sx Sy B) (c / 16) (by rw [List.length_map]; exact lx)
    rw [h, List.getD_eq_getElem?_getD, List.getElem?_map, List.getElem?_eq_getElem lx, gx]
    rfl
  · have h := @ix_nl ((nums Sy B).map fun b => Nf.nim 4 (num1 Sx (c / 16)) b) (c % 16) (by rw [List.length_map]; exact ly)
    rw [h, List.getD_eq_getElem?_getD, List.getElem?_map, List.getElem?_eq_getElem ly, gy]
    rfl
def ob1 : SFn := (sAsg 2 (eOp xorD (eV 2) (eOp ixD (eOp ixD (eV 0) (eOp ixD (eV 3) (eC (.int 0)))) (eOp ixD (eV 3) (eC (.int 1))))))
theorem lover_ok {l : List Nat} (hb : ∀ c ∈ l, c / 16 < B ∧ c % 16 < B) : fn__law_over [nll (tab Sx Sy B), bd l] = .ok (iN (ovr (fb Sx Sy) l)) := by
  obtain ⟨j', h1, _⟩ := fold_loop (ga := tgN 3) (F := ob1) (J := Sl) (P := fun _ _ => True) (N := l.length) (enc := pr) (st := fun t x => [.val (nll (tab Sx Sy B)), .val (bd l), .val (iN t), x]) (nxt := fun t p => t ^^^ fb Sx Sy p) l 0 0 .no (by omega) trivial fun i t x c _ hc _ => by
    obtain ⟨row, h1, h2⟩ := @tab_at Sx Sy B c (hb c hc)
    refine ⟨_, .val (pr c), rfl, ?_, trivial⟩
    unfold ob1
    simp only [Cn.runF_a, Cn.sSeq_a, Cn.sIf_a, Cn.sAsg_a, Cn.sOwn_a, Cn.sRet_a, Cn.sRetO_a, Cn.sNil_a, Cn.sRaise_a, Cn.sExpr_a, Cn.sFrz_a, Cn.sDrop_a, Cn.frz_a, Cn.sApp_a, Cn.sExt_a, Cn.sPut_a, Cn.sPutD_a, Cn.sFor_a, Cn.sWhile_a, Cn.eV_a, Cn.eO_a, Cn.eC_a, Cn.eOp_a, Cn.eUn_a, Cn.eAnd_a, Cn.eOr_a, Cn.eChain_a, Cn.eLst_a, Cn.eTup_a, Cn.eCall_a, Cn.eCallB_a, Cn.eSl_a, Cn.eComp_a, Cn.eYes_a, Cn.aNil_a, Cn.aCons_a, Cn.oNone_a, Cn.oSome_a, Cn.eDict1_a, Cn.iL_a, Cn.iT_a, Cn.iR1_a, Cn.iR2_a, Cn.iR3_a, Cn.tgN_a, Cn.bind_ok, Cn.bind_ex, Cn.rOut_ok, Cn.rOut_ex, List.map_cons, List.map_nil, List.length_cons, List.length_nil, List.cons_append, List.nil_append, List.replicate, List.set, List.getElem?_cons_zero, List.getElem?_cons_succ, Nat.reduceAdd, Nat.reduceSub, Cn.addD, Cn.subD, Cn.negD, Cn.notD, Cn.ltD, Cn.gtD, Cn.geD, Cn.leD, Cn.lenD, Cn.intD, Cn.listD, Cn.seqD, Cn.tupD, Cn.isi_ii, Cn.isi_ib, Cn.isi_bb, Cn.isi_ll, Cn.isi_tt, Cn.isi_ss, Cn.eqD_ii, Cn.neD_ii, Cn.eqD_ss, Cn.neD_ss, Cn.eqD_bb, Cn.neD_bb, decide_true, decide_false, Bool.not_true, Bool.not_false, px, py, h1, h2, xor_iN]
  rw [ovr_from, Nat.zero_xor] at h1
  have h1' : forL (tgN 3) ob1 (l.map pr) [.val (nll (tab Sx Sy B)), .val (bd l), .val (.int 0), .no] = .nx [.val (nll (tab Sx Sy B)), .val (bd l), .val (iN (ovr (fb Sx Sy) l)), j'] := h1
  unfold ob1 at h1'
  unfold fn__law_over b__law_over
  simp only [Cn.runF_a, Cn.sSeq_a, Cn.sIf_a, Cn.sAsg_a, Cn.sOwn_a, Cn.sRet_a, Cn.sRetO_a, Cn.sNil_a, Cn.sRaise_a, Cn.sExpr_a, Cn.sFrz_a, Cn.sDrop_a, Cn.frz_a, Cn.sApp_a, Cn.sExt_a, Cn.sPut_a, Cn.sPutD_a, Cn.sFor_a, Cn.sWhile_a, Cn.eV_a, Cn.eO_a, Cn.eC_a, Cn.eOp_a, Cn.eUn_a, Cn.eAnd_a, Cn.eOr_a, Cn.eChain_a, Cn.eLst_a, Cn.eTup_a, Cn.eCall_a, Cn.eCallB_a, Cn.eSl_a, Cn.eComp_a, Cn.eYes_a, Cn.aNil_a, Cn.aCons_a, Cn.oNone_a, Cn.oSome_a, Cn.eDict1_a, Cn.iL_a, Cn.iT_a, Cn.iR1_a, Cn.iR2_a, Cn.iR3_a, Cn.tgN_a, Cn.bind_ok, Cn.bind_ex, Cn.rOut_ok, Cn.rOut_ex, List.map_cons, List.map_nil, List.length_cons, List.length_nil, List.cons_append, List.nil_append, List.replicate, List.set, List.getElem?_cons_zero, List.getElem?_cons_succ, Nat.reduceAdd, Nat.reduceSub, Cn.addD, Cn.subD, Cn.negD, Cn.notD, Cn.ltD, Cn.gtD, Cn.geD, Cn.leD, Cn.lenD, Cn.intD, Cn.listD, Cn.seqD, Cn.tupD, Cn.isi_ii, Cn.isi_ib, Cn.isi_bb, Cn.isi_ll, Cn.isi_tt, Cn.isi_ss, Cn.eqD_ii, Cn.neD_ii, Cn.eqD_ss, Cn.neD_ss, Cn.eqD_bb, Cn.neD_bb, decide_true, decide_false, Bool.not_true, Bool.not_false, seq_bd, h1']
end
/-- the places that a turn turns -/
def crossed (xs ys : List Nat) : List Nat := xs.flatMap fun x => ys.map fun y => 16 * x + y
theorem cell_xy {x y : Nat} (hy : y < 16) : D.tup [iN x, iN y] = pr (16 * x + y) := by
  show _ = D.tup [.int (((16 * x + y) / 16 : Nat) : Int), .int (((16 * x + y) % 16 : Nat) : Int)]
  have h1 : (16 * x + y) / 16 = x := by omega
  have h2 : (16 * x + y) % 16 = y := by omega
  rw [h1, h2]
def cb1 : SFn := (sAsg 2 (eOp addD (eV 2) (eComp (iL (eV 1)) 4 eYes (eTup (aCons (eV 3) (aCons (eV 4) aNil))))))
theorem cb1_turn {x : Nat} {ys : List Nat} (hy : ∀ y ∈ ys, y < 16) (hl : ys.length ≤ 16) (fs : List Nat) (hf : fs.length ≤ 1000) (s0 s4 : Sl) :
    cb1 [s0, .val (nl ys), .val (bd fs), .val (iN x), s4] = .nx [s0, .val (nl ys), .val (bd (fs ++ ys.map fun y => 16 * x + y)), .val (iN x), s4] := by
  have hc : compL 4 eYes (eTup (aCons (eV 3) (aCons (eV 4) aNil))) [s0, .val (nl ys), .val (bd fs), .val (iN x), s4] (ys.map iN) = .ok ((ys.map fun y => 16 * x + y).map pr) := by
    rw [compL_all (g := fun d => .tup [iN x, d])]
    · rw [List.map_map, List.map_map]
      congr 1
      exact List.map_congr_left fun y hy' => cell_xy (hy y hy')
    · intro d hd
      simp only [Cn.runF_a, Cn.sSeq_a, Cn.sIf_a, Cn.sAsg_a, Cn.sOwn_a, Cn.sRet_a, Cn.sRetO_a, Cn.sNil_a, Cn.sRaise_a, Cn.sExpr_a, Cn.sFrz_a, Cn.sDrop_a, Cn.frz_a, Cn.sApp_a, Cn.sExt_a, Cn.sPut_a, Cn.sPutD_a, Cn.sFor_a, Cn.sWhile_a, Cn.eV_a, Cn.eO_a, Cn.eC_a, Cn.eOp_a, Cn.eUn_a, Cn.eAnd_a, Cn.eOr_a, Cn.eChain_a, Cn.eLst_a, Cn.eTup_a, Cn.eCall_a, Cn.eCallB_a, Cn.eSl_a, Cn.eComp_a, Cn.eYes_a, Cn.aNil_a, Cn.aCons_a, Cn.oNone_a, Cn.oSome_a, Cn.eDict1_a, Cn.iL_a, Cn.iT_a, Cn.iR1_a, Cn.iR2_a, Cn.iR3_a, Cn.tgN_a, Cn.bind_ok, Cn.bind_ex, Cn.rOut_ok, Cn.rOut_ex, List.map_cons, List.map_nil, List.length_cons, List.length_nil, List.cons_append, List.nil_append, List.replicate, List.set, List.getElem?_cons_zero, List.getElem?_cons_succ, Nat.reduceAdd, Nat.reduceSub, Cn.addD, Cn.subD, Cn.negD, Cn.notD, Cn.ltD, Cn.gtD, Cn.geD, Cn.leD, Cn.lenD, Cn.intD, Cn.listD, Cn.seqD, Cn.tupD, Cn.isi_ii, Cn.isi_ib, Cn.isi_bb, Cn.isi_ll, Cn.isi_tt, Cn.isi_ss, Cn.eqD_ii, Cn.neD_ii, Cn.eqD_ss, Cn.neD_ss, Cn.eqD_bb, Cn.neD_bb, decide_true, decide_false, Bool.not_true, Bool.not_false]
  unfold cb1
  simp only [Cn.runF_a, Cn.sSeq_a, Cn.sIf_a, Cn.sAsg_a, Cn.sOwn_a, Cn.sRet_a, Cn.sRetO_a, Cn.sNil_a, Cn.sRaise_a, Cn.sExpr_a, Cn.sFrz_a, Cn.sDrop_a, Cn.frz_a, Cn.sApp_a, Cn.sExt_a, Cn.sPut_a, Cn.sPutD_a, Cn.sFor_a, Cn.sWhile_a, Cn.eV_a, Cn.eO_a, Cn.eC_a, Cn.eOp_a, Cn.eUn_a, Cn.eAnd_a, Cn.eOr_a, Cn.eChain_a, Cn.eLst_a, Cn.eTup_a, Cn.eCall_a, Cn.eCallB_a, Cn.eSl_a, Cn.eComp_a, Cn.eYes_a, Cn.aNil_a, Cn.aCons_a, Cn.oNone_a, Cn.oSome_a, Cn.eDict1_a, Cn.iL_a, Cn.iT_a, Cn.iR1_a, Cn.iR2_a, Cn.iR3_a, Cn.tgN_a, Cn.bind_ok, Cn.bind_ex, Cn.rOut_ok, Cn.rOut_ex, List.map_cons, List.map_nil, List.length_cons, List.length_nil, List.cons_append, List.nil_append, List.replicate, List.set, List.getElem?_cons_zero, List.getElem?_cons_succ, Nat.reduceAdd, Nat.reduceSub, Cn.addD, Cn.subD, Cn.negD, Cn.notD, Cn.ltD, Cn.gtD, Cn.geD, Cn.leD, Cn.lenD, Cn.intD, Cn.listD, Cn.seqD, Cn.tupD, Cn.isi_ii, Cn.isi_ib, Cn.isi_bb, Cn.isi_ll, Cn.isi_tt, Cn.isi_ss, Cn.eqD_ii, Cn.neD_ii, Cn.eqD_ss, Cn.neD_ss, Cn.eqD_bb, Cn.neD_bb, decide_true, decide_false, Bool.not_true, Bool.not_false, seq_nl, List.length_map, if_pos (le_LIM (show ys.length ≤ 1000000 by omega)), hc, if_pos (le_LIM (show fs.length + ys.length ≤ 1000000 by omega))]
  rw [← List.map_append]
theorem lcrossed_ok {xs ys : List Nat} (hy : ∀ y ∈ ys, y < 16) (hx : xs.length ≤ 16) (hl : ys.length ≤ 16) : fn__law_crossed [nl xs, nl ys] = .ok (bd (crossed xs ys)) := by
  obtain ⟨s', h, _⟩ := fold_loop (ga := tgN 3) (F := cb1) (J := Sl) (P := fun i (fs : List Nat) => fs.length ≤ 16 * i) (N := 16) (enc := iN)
    (st := fun fs s => [.val (nl xs), .val (nl ys), .val (bd fs), s, .no]) (nxt := fun fs x => fs ++ ys.map fun y => 16 * x + y) xs 0 [] .no (by omega) (Nat.le_refl _) fun i fs s x hi hx hP =>
      ⟨_, .val (iN x), rfl, cb1_turn hy hl fs (by omega) _ _, by rw [List.length_append, List.length_map]; omega⟩
  rw [foldl_app, List.nil_append] at h
  have h' : forL (tgN 3) cb1 (xs.map iN) [.val (nl xs), .val (nl ys), .val (.lst []), .no, .no] = .nx [.val (nl xs), .val (nl ys), .val (bd (crossed xs ys)), s', .no] := h
  unfold cb1 at h'
  unfold fn__law_crossed b__law_crossed
  simp only [Cn.runF_a, Cn.sSeq_a, Cn.sIf_a, Cn.sAsg_a, Cn.sOwn_a, Cn.sRet_a, Cn.sRetO_a, Cn.sNil_a, Cn.sRaise_a, Cn.sExpr_a, Cn.sFrz_a, Cn.sDrop_a, Cn.frz_a, Cn.sApp_a, Cn.sExt_a, Cn.sPut_a, Cn.sPutD_a, Cn.sFor_a, Cn.sWhile_a, Cn.eV_a, Cn.eO_a, Cn.eC_a, Cn.eOp_a, Cn.eUn_a, Cn.eAnd_a, Cn.eOr_a, Cn.eChain_a, Cn.eLst_a, Cn.eTup_a, Cn.eCall_a, Cn.eCallB_a, Cn.eSl_a, Cn.eComp_a, Cn.eYes_a, Cn.aNil_a, Cn.aCons_a, Cn.oNone_a, Cn.oSome_a, Cn.eDict1_a, Cn.iL_a, Cn.iT_a, Cn.iR1_a, Cn.iR2_a, Cn.iR3_a, Cn.tgN_a, Cn.bind_ok, Cn.bind_ex, Cn.rOut_ok, Cn.rOut_ex, List.map_cons, List.map_nil, List.length_cons, List.length_nil, List.cons_append, List.nil_append, List.replicate, List.set, List.getElem?_cons_zero, List.getElem?_cons_succ, Nat.reduceAdd, Nat.reduceSub, Cn.addD, Cn.subD, Cn.negD, Cn.notD, Cn.ltD, Cn.gtD, Cn.geD, Cn.leD, Cn.lenD, Cn.intD, Cn.listD, Cn.seqD, Cn.tupD, Cn.isi_ii, Cn.isi_ib, Cn.isi_bb, Cn.isi_ll, Cn.isi_tt, Cn.isi_ss, Cn.eqD_ii, Cn.neD_ii, Cn.eqD_ss, Cn.neD_ss, Cn.eqD_bb, Cn.neD_bb, decide_true, decide_false, Bool.not_true, Bool.not_false, seq_nl, h']
theorem ovr_flat {f : Nat → Nat} (g : Nat → List Nat) : ∀ xs : List Nat, ovr f (xs.flatMap g) = ovr (fun x => ovr f (g x)) xs
  | [] => rfl
  | x :: r => by rw [List.flatMap_cons, ovr_append, ovr_cons, ovr_flat g r]
theorem ovr_nim_r {g : Nat → Nat} (a : Nat) : ∀ ys : List Nat, ovr (fun y => Nf.nim 4 a (g y)) ys = Nf.nim 4 a (ovr g ys)
  | [] => by rw [ovr_nil, ovr_nil, Nf.nim_comm, Nf.nim_zero]
  | y :: r => by rw [ovr_cons, ovr_cons, Nf.nim_add, ovr_nim_r a r]
theorem ovr_nim_l {g : Nat → Nat} (b : Nat) : ∀ xs : List Nat, ovr (fun x => Nf.nim 4 (g x) b) xs = Nf.nim 4 (ovr g xs) b
  | [] => by rw [ovr_nil, ovr_nil, Nf.nim_zero]
  | x :: r => by rw [ovr_cons, ovr_cons, nim_addl, ovr_nim_l b r]
theorem ovr_crossed {Sx Sy : Nat → List (List Nat)} {xs ys : List Nat} (hy : ∀ y ∈ ys, y < 16) : ovr (fb Sx Sy) (crossed xs ys) = fp Sx Sy (xs, ys) := by
  unfold crossed fp
  rw [ovr_flat]
  have e : ∀ x, ovr (fb Sx Sy) (ys.map fun y => 16 * x + y) = Nf.nim 4 (num1 Sx x) (ovr (num1 Sy) ys) := fun x => by
    rw [ovr_map, ← ovr_nim_r]
    refine ovr_congr fun y hy' => ?_
    have := hy y hy'
    unfold fb
    rw [show (16 * x + y) / 16 = x by omega, show (16 * x + y) % 16 = y by omega]
  rw [show (fun x => ovr (fb Sx Sy) (ys.map fun y => 16 * x + y)) = fun x => Nf.nim 4 (num1 Sx x) (ovr (num1 Sy) ys) from funext e, ovr_nim_l]
theorem mem_crossed {xs ys : List Nat} (hy : ∀ y ∈ ys, y < 16) {c : Nat} (h : c ∈ crossed xs ys) : c / 16 ∈ xs ∧ c % 16 ∈ ys := by
  obtain ⟨x, hx, h⟩ := List.mem_flatMap.mp h
  obtain ⟨y, hy', rfl⟩ := List.mem_map.mp h
  have := hy y hy'
  rw [show (16 * x + y) / 16 = x by omega, show (16 * x + y) % 16 = y by omega]
  exact ⟨hx, hy'⟩
theorem crossed_nodup {ys : List Nat} (hy : ∀ y ∈ ys, y < 16) (hn : ys.Nodup) : ∀ {xs : List Nat}, xs.Nodup → (crossed xs ys).Nodup
  | [], _ => List.nodup_nil
  | x :: r, h => by
    obtain ⟨h1, h2⟩ := List.nodup_cons.mp h
    show (((ys.map fun y => 16 * x + y)) ++ crossed r ys).Nodup
    refine List.nodup_append.mpr ⟨?_, crossed_nodup hy hn h2, fun a ha b hb e => ?_⟩
    · exact List.pairwise_map.mpr (hn.imp fun {a b} h z => h (by omega))
    · subst e
      obtain ⟨y, hy', rfl⟩ := List.mem_map.mp ha
      have h3 := (mem_crossed hy hb).1
      have h4 := hy y hy'
      rw [show (16 * x + y) / 16 = x by omega] at h3
      exact h1 h3
def fi3 : SFn := (sIf (eOp eqD (eCall fn__law_over (aCons (eV 1) (aCons (eCall fn__law_crossed (aCons (eV 5) (aCons (eV 6) aNil))) aNil))) (eV 3))
    (sRet (eTup (aCons (eV 5) (aCons (eV 6) aNil))))
    sNil)
def fi2 : SFn := (sFor (iL (eCall fn__law_shapes (aCons (eOp ixD (eV 0) (eC (.int 1))) (aCons (eOp ixD (eV 4) (eC (.int 1))) aNil)))) (tgN 6) fi3)
def fi1 : SFn := (sFor (iL (eCall fn__law_shapes (aCons (eOp ixD (eV 0) (eC (.int 0))) (aCons (eOp ixD (eV 4) (eC (.int 0))) aNil)))) (tgN 5) fi2)
section
variable {rx ry : D} {Sx Sy : Nat → List (List Nat)} {B : Nat}
theorem Ok14.lt {r : D} {S : Nat → List (List Nat)} (X : Ok14 r S B) {p : Nat} (hp : p < B) {s : List Nat} (hs : s ∈ S p) : ∀ q ∈ s, q < B := by
  intro q hq
  have := shape_le (X.k.shaped p hp) hs (Nat.le_refl p) q hq
  omega
theorem fi3_turn (X : Ok14 rx Sx B) (Y : Ok14 ry Sy B) (hB : B ≤ 16) {c v : Nat} (hc : c / 16 < B ∧ c % 16 < B) {xs ys : List Nat} (hx : xs ∈ Sx (c / 16)) (hy : ys ∈ Sy (c % 16)) (s0 s2 s4 : Sl) :
    fi3 [s0, .val (nll (tab Sx Sy B)), s2, .val (iN v), s4, .val (nl xs), .val (nl ys)] =
      outO tw (.nx [s0, .val (nll (tab Sx Sy B)), s2, .val (iN v), s4, .val (nl xs), .val (nl ys)]) (g3 Sx Sy v xs ys) := by
  have y16 : ∀ y ∈ ys, y < 16 := fun y h => Nat.lt_of_lt_of_le (Y.lt hc.2 hy y h) hB
  have hcr := lcrossed_ok y16 (X.ok _ hc.1 xs hx).2 (Y.ok _ hc.2 ys hy).2
  have ho := @lover_ok Sx Sy B (crossed xs ys) fun k hk => ⟨X.lt hc.1 hx _ (mem_crossed y16 hk).1, Y.lt hc.2 hy _ (mem_crossed y16 hk).2⟩
  rw [ovr_crossed y16] at ho
  unfold fi3 g3
  by_cases hd : fp Sx Sy (xs, ys) = v
  · rw [if_pos hd]
    simp only [Cn.runF_a, Cn.sSeq_a, Cn.sIf_a, Cn.sAsg_a, Cn.sOwn_a, Cn.sRet_a, Cn.sRetO_a, Cn.sNil_a, Cn.sRaise_a, Cn.sExpr_a, Cn.sFrz_a, Cn.sDrop_a, Cn.frz_a, Cn.sApp_a, Cn.sExt_a, Cn.sPut_a, Cn.sPutD_a, Cn.sFor_a, Cn.sWhile_a, Cn.eV_a, Cn.eO_a, Cn.eC_a, Cn.eOp_a, Cn.eUn_a, Cn.eAnd_a, Cn.eOr_a, Cn.eChain_a, Cn.eLst_a, Cn.eTup_a, Cn.eCall_a, Cn.eCallB_a, Cn.eSl_a, Cn.eComp_a, Cn.eYes_a, Cn.aNil_a, Cn.aCons_a, Cn.oNone_a, Cn.oSome_a, Cn.eDict1_a, Cn.iL_a, Cn.iT_a, Cn.iR1_a, Cn.iR2_a, Cn.iR3_a, Cn.tgN_a, Cn.bind_ok, Cn.bind_ex, Cn.rOut_ok, Cn.rOut_ex, List.map_cons, List.map_nil, List.length_cons, List.length_nil, List.cons_append, List.nil_append, List.replicate, List.set, List.getElem?_cons_zero, List.getElem?_cons_succ, Nat.reduceAdd, Nat.reduceSub, Cn.addD, Cn.subD, Cn.negD, Cn.notD, Cn.ltD, Cn.gtD, Cn.geD, Cn.leD, Cn.lenD, Cn.intD, Cn.listD, Cn.seqD, Cn.tupD, Cn.isi_ii, Cn.isi_ib, Cn.isi_bb, Cn.isi_ll, Cn.isi_tt, Cn.isi_ss, Cn.eqD_ii, Cn.neD_ii, Cn.eqD_ss, Cn.neD_ss, Cn.eqD_bb, Cn.neD_bb, decide_true, decide_false, Bool.not_true, Bool.not_false, hcr, ho, decide_eq_true (show ((fp Sx Sy (xs, ys) : Nat) : Int) = (v : Int) by omega)]
    rfl
  · rw [if_neg hd]
    simp only [Cn.runF_a, Cn.sSeq_a, Cn.sIf_a, Cn.sAsg_a, Cn.sOwn_a, Cn.sRet_a, Cn.sRetO_a, Cn.sNil_a, Cn.sRaise_a, Cn.sExpr_a, Cn.sFrz_a, Cn.sDrop_a, Cn.frz_a, Cn.sApp_a, Cn.sExt_a, Cn.sPut_a, Cn.sPutD_a, Cn.sFor_a, Cn.sWhile_a, Cn.eV_a, Cn.eO_a, Cn.eC_a, Cn.eOp_a, Cn.eUn_a, Cn.eAnd_a, Cn.eOr_a, Cn.eChain_a, Cn.eLst_a, Cn.eTup_a, Cn.eCall_a, Cn.eCallB_a, Cn.eSl_a, Cn.eComp_a, Cn.eYes_a, Cn.aNil_a, Cn.aCons_a, Cn.oNone_a, Cn.oSome_a, Cn.eDict1_a, Cn.iL_a, Cn.iT_a, Cn.iR1_a, Cn.iR2_a, Cn.iR3_a, Cn.tgN_a, Cn.bind_ok, Cn.bind_ex, Cn.rOut_ok, Cn.rOut_ex, List.map_cons, List.map_nil, List.length_cons, List.length_nil, List.cons_append, List.nil_append, List.replicate, List.set, List.getElem?_cons_zero, List.getElem?_cons_succ, Nat.reduceAdd, Nat.reduceSub, Cn.addD, Cn.subD, Cn.negD, Cn.notD, Cn.ltD, Cn.gtD, Cn.geD, Cn.leD, Cn.lenD, Cn.intD, Cn.listD, Cn.seqD, Cn.tupD, Cn.isi_ii, Cn.isi_ib, Cn.isi_bb, Cn.isi_ll, Cn.isi_tt, Cn.isi_ss, Cn.eqD_ii, Cn.neD_ii, Cn.eqD_ss, Cn.neD_ss, Cn.eqD_bb, Cn.neD_bb, decide_true, decide_false, Bool.not_true, Bool.not_false, hcr, ho, decide_eq_false (show ¬ ((fp Sx Sy (xs, ys) : Nat) : Int) = (v : Int) by omega)]
    rfl
theorem fi2_turn (X : Ok14 rx Sx B) (Y : Ok14 ry Sy B) (hB : B ≤ 16) {c v : Nat} (hc : c / 16 < B ∧ c % 16 < B) {xs : List Nat} (hx : xs ∈ Sx (c / 16)) (s2 s6 : Sl) :
    ∃ s6', fi2 [.val (.lst [rx, ry]), .val (nll (tab Sx Sy B)), s2, .val (iN v), .val (pr c), .val (nl xs), s6] =
      outO tw (.nx [.val (.lst [rx, ry]), .val (nll (tab Sx Sy B)), s2, .val (iN v), .val (pr c), .val (nl xs), s6']) (g2 Sx Sy v (c % 16) xs) := by
  obtain ⟨s', e⟩ := findSome_loop (J := Sl) (ga := tgN 6) (F := fi3) (enc := nl) (g := g3 Sx Sy v xs) (res := tw) (st := fun x => [.val (.lst [rx, ry]), .val (nll (tab Sx Sy B)), s2, .val (iN v), .val (pr c), .val (nl xs), x]) (Sy (c % 16)) s6 fun ys hy x =>
    ⟨_, .val (nl ys), rfl, fi3_turn X Y hB hc hx hy _ _ _⟩
  refine ⟨s', ?_⟩
  unfold fi2
  simp only [Cn.runF_a, Cn.sSeq_a, Cn.sIf_a, Cn.sAsg_a, Cn.sOwn_a, Cn.sRet_a, Cn.sRetO_a, Cn.sNil_a, Cn.sRaise_a, Cn.sExpr_a, Cn.sFrz_a, Cn.sDrop_a, Cn.frz_a, Cn.sApp_a, Cn.sExt_a, Cn.sPut_a, Cn.sPutD_a, Cn.sFor_a, Cn.sWhile_a, Cn.eV_a, Cn.eO_a, Cn.eC_a, Cn.eOp_a, Cn.eUn_a, Cn.eAnd_a, Cn.eOr_a, Cn.eChain_a, Cn.eLst_a, Cn.eTup_a, Cn.eCall_a, Cn.eCallB_a, Cn.eSl_a, Cn.eComp_a, Cn.eYes_a, Cn.aNil_a, Cn.aCons_a, Cn.oNone_a, Cn.oSome_a, Cn.eDict1_a, Cn.iL_a, Cn.iT_a, Cn.iR1_a, Cn.iR2_a, Cn.iR3_a, Cn.tgN_a, Cn.bind_ok, Cn.bind_ex, Cn.rOut_ok, Cn.rOut_ex, List.map_cons, List.map_nil, List.length_cons, List.length_nil, List.cons_append, List.nil_append, List.replicate, List.set, List.getElem?_cons_zero, List.getElem?_cons_succ, Nat.reduceAdd, Nat.reduceSub, Cn.addD, Cn.subD, Cn.negD, Cn.notD, Cn.ltD, Cn.gtD, Cn.geD, Cn.leD, Cn.lenD, Cn.intD, Cn.listD, Cn.seqD, Cn.tupD, Cn.isi_ii, Cn.isi_ib, Cn.isi_bb, Cn.isi_ll, Cn.isi_tt, Cn.isi_ss, Cn.eqD_ii, Cn.neD_ii, Cn.eqD_ss, Cn.neD_ss, Cn.eqD_bb, Cn.neD_bb, decide_true, decide_false, Bool.not_true, Bool.not_false, ll1, py, Y.ls (c % 16) hc.2, seq_nll, e]
  rfl
theorem fi1_turn (X : Ok14 rx Sx B) (Y : Ok14 ry Sy B) (hB : B ≤ 16) {c v : Nat} (hc : c / 16 < B ∧ c % 16 < B) (s2 s5 s6 : Sl) :
    ∃ s5' s6', fi1 [.val (.lst [rx, ry]), .val (nll (tab Sx Sy B)), s2, .val (iN v), .val (pr c), s5, s6] =
      outO tw (.nx [.val (.lst [rx, ry]), .val (nll (tab Sx Sy B)), s2, .val (iN v), .val (pr c), s5', s6']) (g1 Sx Sy v c) := by
  obtain ⟨s', e⟩ := findSome_loop (J := Sl × Sl) (ga := tgN 5) (F := fi2) (enc := nl) (g := g2 Sx Sy v (c % 16)) (res := tw) (st := fun x => [.val (.lst [rx, ry]), .val (nll (tab Sx Sy B)), s2, .val (iN v), .val (pr c), x.1, x.2]) (Sx (c / 16)) (s5, s6) fun xs hx x => by
    obtain ⟨s6', e⟩ := fi2_turn X Y hB (v := v) hc hx s2 x.2
    exact ⟨_, (.val (nl xs), s6'), rfl, e⟩
  refine ⟨s'.1, s'.2, ?_⟩
  unfold fi1
  simp only [Cn.runF_a, Cn.sSeq_a, Cn.sIf_a, Cn.sAsg_a, Cn.sOwn_a, Cn.sRet_a, Cn.sRetO_a, Cn.sNil_a, Cn.sRaise_a, Cn.sExpr_a, Cn.sFrz_a, Cn.sDrop_a, Cn.frz_a, Cn.sApp_a, Cn.sExt_a, Cn.sPut_a, Cn.sPutD_a, Cn.sFor_a, Cn.sWhile_a, Cn.eV_a, Cn.eO_a, Cn.eC_a, Cn.eOp_a, Cn.eUn_a, Cn.eAnd_a, Cn.eOr_a, Cn.eChain_a, Cn.eLst_a, Cn.eTup_a, Cn.eCall_a, Cn.eCallB_a, Cn.eSl_a, Cn.eComp_a, Cn.eYes_a, Cn.aNil_a, Cn.aCons_a, Cn.oNone_a, Cn.oSome_a, Cn.eDict1_a, Cn.iL_a, Cn.iT_a, Cn.iR1_a, Cn.iR2_a, Cn.iR3_a, Cn.tgN_a, Cn.bind_ok, Cn.bind_ex, Cn.rOut_ok, Cn.rOut_ex, List.map_cons, List.map_nil, List.length_cons, List.length_nil, List.cons_append, List.nil_append, List.replicate, List.set, List.getElem?_cons_zero, List.getElem?_cons_succ, Nat.reduceAdd, Nat.reduceSub, Cn.addD, Cn.subD, Cn.negD, Cn.notD, Cn.ltD, Cn.gtD, Cn.geD, Cn.leD, Cn.lenD, Cn.intD, Cn.listD, Cn.seqD, Cn.tupD, Cn.isi_ii, Cn.isi_ib, Cn.isi_bb, Cn.isi_ll, Cn.isi_tt, Cn.isi_ss, Cn.eqD_ii, Cn.neD_ii, Cn.eqD_ss, Cn.neD_ss, Cn.eqD_bb, Cn.neD_bb, decide_true, decide_false, Bool.not_true, Bool.not_false, ll0, px, X.ls (c / 16) hc.1, seq_nll, e]
  rfl
theorem lfirst_ok (X : Ok14 rx Sx B) (Y : Ok14 ry Sy B) (hB : B ≤ 16) {l : List Nat} (hl : ∀ c ∈ l, c / 16 < B ∧ c % 16 < B) :
    fn__law_first [.lst [rx, ry], nll (tab Sx Sy B), bd l] = .ok (match firstB Sx Sy l with | some t => tw t | none => .non) := by
  have ho := @lover_ok Sx Sy B l hl
  obtain ⟨s', e⟩ := findSome_loop (J := Sl × Sl × Sl) (ga := tgN 4) (F := fi1) (enc := pr) (g := g1 Sx Sy (ovr (fb Sx Sy) l)) (res := tw) (st := fun x => [.val (.lst [rx, ry]), .val (nll (tab Sx Sy B)), .val (bd l), .val (iN (ovr (fb Sx Sy) l)), x.1, x.2.1, x.2.2]) l (.no, .no, .no) fun c hc x => by
    obtain ⟨s5, s6, e⟩ := fi1_turn X Y hB (v := ovr (fb Sx Sy) l) (hl c hc) (.val (bd l)) x.2.1 x.2.2
    exact ⟨_, (.val (pr c), s5, s6), rfl, e⟩
  have hb : b__law_first = (sSeq (sAsg 3 (eCall fn__law_over (aCons (eV 1) (aCons (eV 2) aNil)))) (sSeq (sFor (iL (eV 2)) (tgN 4) fi1) (sRet (eC .non)))) := by
    unfold b__law_first fi1 fi2 fi3
    rfl
  unfold fn__law_first
  rw [hb]
  simp only [Cn.runF_a, Cn.sSeq_a, Cn.sIf_a, Cn.sAsg_a, Cn.sOwn_a, Cn.sRet_a, Cn.sRetO_a, Cn.sNil_a, Cn.sRaise_a, Cn.sExpr_a, Cn.sFrz_a, Cn.sDrop_a, Cn.frz_a, Cn.sApp_a, Cn.sExt_a, Cn.sPut_a, Cn.sPutD_a, Cn.sFor_a, Cn.sWhile_a, Cn.eV_a, Cn.eO_a, Cn.eC_a, Cn.eOp_a, Cn.eUn_a, Cn.eAnd_a, Cn.eOr_a, Cn.eChain_a, Cn.eLst_a, Cn.eTup_a, Cn.eCall_a, Cn.eCallB_a, Cn.eSl_a, Cn.eComp_a, Cn.eYes_a, Cn.aNil_a, Cn.aCons_a, Cn.oNone_a, Cn.oSome_a, Cn.eDict1_a, Cn.iL_a, Cn.iT_a, Cn.iR1_a, Cn.iR2_a, Cn.iR3_a, Cn.tgN_a, Cn.bind_ok, Cn.bind_ex, Cn.rOut_ok, Cn.rOut_ex, List.map_cons, List.map_nil, List.length_cons, List.length_nil, List.cons_append, List.nil_append, List.replicate, List.set, List.getElem?_cons_zero, List.getElem?_cons_succ, Nat.reduceAdd, Nat.reduceSub, Cn.addD, Cn.subD, Cn.negD, Cn.notD, Cn.ltD, Cn.gtD, Cn.geD, Cn.leD, Cn.lenD, Cn.intD, Cn.listD, Cn.seqD, Cn.tupD, Cn.isi_ii, Cn.isi_ib, Cn.isi_bb, Cn.isi_ll, Cn.isi_tt, Cn.isi_ss, Cn.eqD_ii, Cn.neD_ii, Cn.eqD_ss, Cn.neD_ss, Cn.eqD_bb, Cn.neD_bb, decide_true, decide_false, Bool.not_true, Bool.not_false, ho, seq_bd, e]
  unfold firstB
  cases l.findSome? (g1 Sx Sy (ovr (fb Sx Sy) l)) <;> rfl
end
theorem len_nl (l : List Nat) : lenD (nl l) = .ok (.int (l.length : Int)) := by
  show R.ok (D.int _) = _
  rw [List.length_map]
def it2 : SFn := (sIf (eOr (eUn notD (eUn (isiD "int") (eOp ixD (eOp ixD (eV 0) (eV 2)) (eV 3)))) (eOr (eUn (isiD "bool") (eOp ixD (eOp ixD (eV 0) (eV 2)) (eV 3))) (eOp neD (eOp ixD (eOp ixD (eV 0) (eV 2)) (eV 3)) (eOp ixD (eOp ixD (eV 1) (eV 2)) (eV 3)))))
    (sRet (eC (.bl false)))
    sNil)
def it1 : SFn := (sSeq (sIf (eOr (eUn notD (eUn (isiD "list") (eOp ixD (eV 0) (eV 2)))) (eOp neD (eUn lenD (eOp ixD (eV 0) (eV 2))) (eUn lenD (eOp ixD (eV 1) (eV 2)))))
    (sRet (eC (.bl false)))
    sNil)
    (sFor (iR1 (eUn lenD (eOp ixD (eV 1) (eV 2)))) (tgN 3) it2))
theorem it2_loop {d k : D} {s : List Nat} (hd : ixD d k = .ok (nl s)) : ∀ (l : List Nat) (s3 : Sl), (∀ n ∈ l, n < s.length) → ∃ s', forL (tgN 3) it2 (l.map iN) [.val d, .val d, .val k, s3] = .nx [.val d, .val d, .val k, s']
  | [], s3, _ => ⟨s3, rfl⟩
  | n :: r, s3, h => by
    obtain ⟨s', e⟩ := it2_loop hd r (.val (iN n)) fun m hm => h m (List.mem_cons_of_mem _ hm)
    refine ⟨s', ?_⟩
    have hn := @ix_nl s n (h n (List.mem_cons_self ..))
    rw [List.map_cons]
    unfold it2 at e ⊢
    simp only [Cn.runF_a, Cn.sSeq_a, Cn.sIf_a, Cn.sAsg_a, Cn.sOwn_a, Cn.sRet_a, Cn.sRetO_a, Cn.sNil_a, Cn.sRaise_a, Cn.sExpr_a, Cn.sFrz_a, Cn.sDrop_a, Cn.frz_a, Cn.sApp_a, Cn.sExt_a, Cn.sPut_a, Cn.sPutD_a, Cn.sFor_a, Cn.sWhile_a, Cn.eV_a, Cn.eO_a, Cn.eC_a, Cn.eOp_a, Cn.eUn_a, Cn.eAnd_a, Cn.eOr_a, Cn.eChain_a, Cn.eLst_a, Cn.eTup_a, Cn.eCall_a, Cn.eCallB_a, Cn.eSl_a, Cn.eComp_a, Cn.eYes_a, Cn.aNil_a, Cn.aCons_a, Cn.oNone_a, Cn.oSome_a, Cn.eDict1_a, Cn.iL_a, Cn.iT_a, Cn.iR1_a, Cn.iR2_a, Cn.iR3_a, Cn.tgN_a, Cn.bind_ok, Cn.bind_ex, Cn.rOut_ok, Cn.rOut_ex, List.map_cons, List.map_nil, List.length_cons, List.length_nil, List.cons_append, List.nil_append, List.replicate, List.set, List.getElem?_cons_zero, List.getElem?_cons_succ, Nat.reduceAdd, Nat.reduceSub, Cn.addD, Cn.subD, Cn.negD, Cn.notD, Cn.ltD, Cn.gtD, Cn.geD, Cn.leD, Cn.lenD, Cn.intD, Cn.listD, Cn.seqD, Cn.tupD, Cn.isi_ii, Cn.isi_ib, Cn.isi_bb, Cn.isi_ll, Cn.isi_tt, Cn.isi_ss, Cn.eqD_ii, Cn.neD_ii, Cn.eqD_ss, Cn.neD_ss, Cn.eqD_bb, Cn.neD_bb, decide_true, decide_false, Bool.not_true, Bool.not_false, forL_cons, hd, hn, e]
theorem it1_turn {d k : D} {s : List Nat} (hd : ixD d k = .ok (nl s)) (hl : s.length ≤ 1000) (s3 : Sl) : ∃ s', it1 [.val d, .val d, .val k, s3] = .nx [.val d, .val d, .val k, s'] := by
  obtain ⟨s', e⟩ := it2_loop hd (List.range s.length) s3 fun n hn => List.mem_range.mp hn
  have hr : rg1D (.int (s.length : Int)) = .ok ((List.range s.length).map iN) := by
    rw [rg1_ok (by omega)]
    exact congrArg R.ok (rgL_nat s.length)
  refine ⟨s', ?_⟩
  unfold it1
  simp only [sSeq_a, sIf_a, eOr_a, eOp_a, eUn_a, eV_a, sNil_a, sFor_a, iR1_a, List.getElem?_cons_zero, List.getElem?_cons_succ, bind_ok, rOut_ok, hd, isi_ll, notD, Bool.not_true, len_nl, neD_ii, decide_true, hr, e]
theorem is_turn_ok {t : List Nat × List Nat} (h1 : t.1.length ≤ 1000) (h2 : t.2.length ≤ 1000) : fn__law_is_turn [tw t, tw t] = .ok (.bl true) := by
  obtain ⟨s1, e1⟩ := @it1_turn (tw t) (.int 0) t.1 rfl h1 .no
  obtain ⟨s2, e2⟩ := @it1_turn (tw t) (.int 1) t.2 rfl h2 s1
  have hr : rg1D (.int 2) = .ok [.int 0, .int 1] := by
    rw [rg1_ok (by decide)]
    exact congrArg R.ok (rgL_nat 2)
  have hb : b__law_is_turn = (sSeq (sIf (eOr (eUn notD (eUn (isiD "tuple") (eV 0))) (eOp neD (eUn lenD (eV 0)) (eC (.int 2))))
    (sRet (eC (.bl false)))
    sNil)
    (sSeq (sFor (iR1 (eC (.int 2))) (tgN 2) it1)
    (sRet (eC (.bl true))))) := by
    unfold b__law_is_turn it1 it2
    rfl
  unfold fn__law_is_turn
  rw [hb]
  simp only [Cn.runF_a, Cn.sSeq_a, Cn.sIf_a, Cn.sAsg_a, Cn.sOwn_a, Cn.sRet_a, Cn.sRetO_a, Cn.sNil_a, Cn.sRaise_a, Cn.sExpr_a, Cn.sFrz_a, Cn.sDrop_a, Cn.frz_a, Cn.sApp_a, Cn.sExt_a, Cn.sPut_a, Cn.sPutD_a, Cn.sFor_a, Cn.sWhile_a, Cn.eV_a, Cn.eO_a, Cn.eC_a, Cn.eOp_a, Cn.eUn_a, Cn.eAnd_a, Cn.eOr_a, Cn.eChain_a, Cn.eLst_a, Cn.eTup_a, Cn.eCall_a, Cn.eCallB_a, Cn.eSl_a, Cn.eComp_a, Cn.eYes_a, Cn.aNil_a, Cn.aCons_a, Cn.oNone_a, Cn.oSome_a, Cn.eDict1_a, Cn.iL_a, Cn.iT_a, Cn.iR1_a, Cn.iR2_a, Cn.iR3_a, Cn.tgN_a, Cn.bind_ok, Cn.bind_ex, Cn.rOut_ok, Cn.rOut_ex, List.map_cons, List.map_nil, List.length_cons, List.length_nil, List.cons_append, List.nil_append, List.replicate, List.set, List.getElem?_cons_zero, List.getElem?_cons_succ, Nat.reduceAdd, Nat.reduceSub, Cn.addD, Cn.subD, Cn.negD, Cn.notD, Cn.ltD, Cn.gtD, Cn.geD, Cn.leD, Cn.lenD, Cn.intD, Cn.listD, Cn.seqD, Cn.tupD, Cn.isi_ii, Cn.isi_ib, Cn.isi_bb, Cn.isi_ll, Cn.isi_tt, Cn.isi_ss, Cn.eqD_ii, Cn.neD_ii, Cn.eqD_ss, Cn.neD_ss, Cn.eqD_bb, Cn.neD_bb, decide_true, decide_false, Bool.not_true, Bool.not_false, hr, forL_cons, forL_nil, e1, e2, show ((2 : Nat) : Int) = 2 from rfl, decide_eq_true (show (2 : Int) = 2 from rfl)]
/-- a place, as a pair -/
def pc (c : Nat) : Int × Int := (((c / 16 : Nat) : Int), ((c % 16 : Nat) : Int))
def co (p : Int × Int) : Nat := (16 * p.1 + p.2).toNat
def Inn (p : Int × Int) : Prop := (0 ≤ p.1 ∧ p.1 < 16) ∧ (0 ≤ p.2 ∧ p.2 < 16)
theorem pr_pc (c : Nat) : pr c = Cn.prD (pc c) := rfl
theorem pc_co {p : Int × Int} (h : Inn p) : pc (co p) = p := by
  unfold pc co Inn at *
  obtain ⟨⟨h1, h2⟩, h3, h4⟩ := h
  refine Prod.ext ?_ ?_
  · show (((16 * p.1 + p.2).toNat / 16 : Nat) : Int) = p.1
    omega
  · show (((16 * p.1 + p.2).toNat % 16 : Nat) : Int) = p.2
    omega
theorem co_pc (c : Nat) : co (pc c) = c := by
  unfold pc co
  show (16 * ((c / 16 : Nat) : Int) + ((c % 16 : Nat) : Int)).toNat = c
  omega
theorem inn_pc {c : Nat} (h : c < 256) : Inn (pc c) := by
  unfold pc Inn
  dsimp only
  omega
theorem prD_inj {p q : Int × Int} (h : Cn.prD p = Cn.prD q) : p = q := by
  unfold Cn.prD at h
  injection h with h
  injection h with h1 h
  injection h with h2 h
  injection h1 with h1
  injection h2 with h2
  exact Prod.ext h1 h2
theorem nd_prD (p : Int × Int) : num (Cn.prD p) = true ∧ dep (Cn.prD p) ≤ 1 := nd_tup (n := 0) (nd_cons (nd_int _) (nd_cons (nd_int _) nd_nil))
theorem in_prs (p : Int × Int) (l : List Nat) : inD (Cn.prD p) (bd l) = .ok (.bl (decide (p ∈ l.map pc))) := by
  have hb : bd l = .lst (l.map fun c => Cn.prD (pc c)) := rfl
  rw [hb, inD_l (n := 1) (nd_prD p) (nd_map (fun c => nd_prD (pc c)) l)]
  congr 2
  refine decide_eq_decide.mpr ⟨fun h => ?_, fun h => ?_⟩
  · obtain ⟨c, hc, e⟩ := List.mem_map.mp h
    exact List.mem_map.mpr ⟨c, hc, prD_inj e⟩
  · obtain ⟨c, hc, rfl⟩ := List.mem_map.mp h
    exact List.mem_map.mpr ⟨c, hc, rfl⟩
theorem nin_prs (p : Int × Int) (l : List Nat) : ninD (Cn.prD p) (bd l) = .ok (.bl (!decide (p ∈ l.map pc))) := by
  have h := in_prs p l
  unfold inD at h
  unfold ninD
  split at h
  · rename_i k hk
    injection h with h
    injection h with h
    rw [h]
  · cases h
theorem rise_of : ∀ {l : List Nat} {b : Int}, l.Pairwise (· < ·) → (∀ c ∈ l, c < 256) → (∀ c ∈ l, b < (c : Int)) → RiseB b l
  | [], _, _, _, _ => trivial
  | a :: r, b, h, h2, h3 => ⟨h3 a List.mem_cons_self, h2 a List.mem_cons_self, rise_of (List.pairwise_cons.mp h).2 (fun c hc => h2 c (List.mem_cons_of_mem _ hc)) fun c hc => by
    have := (List.pairwise_cons.mp h).1 c hc
    omega⟩
theorem rise_lt : ∀ {l : List Nat} {b : Int}, RiseB b l → (∀ c ∈ l, b < (c : Int) ∧ c < 256) ∧ l.Pairwise (· < ·)
  | [], _, _ => ⟨fun c hc => (by cases hc), .nil⟩
  | a :: r, b, h => by
    obtain ⟨h1, h2⟩ := rise_lt h.2.2
    have h0 := h.1
    refine ⟨fun c hc => ?_, List.pairwise_cons.mpr ⟨fun c hc => ?_, h2⟩⟩
    · rcases List.mem_cons.mp hc with rfl | hc
      · exact ⟨h.1, h.2.1⟩
      · have := h1 c hc
        exact ⟨by omega, this.2⟩
    · have := (h1 c hc).1
      omega
/-- rising lists with the same members are one -/
theorem rise_ext : ∀ {l m : List Nat}, l.Pairwise (· < ·) → m.Pairwise (· < ·) → (∀ c, c ∈ l ↔ c ∈ m) → l = m
  | [], [], _, _, _ => rfl
  | [], b :: m, _, _, h => by have := (h b).mpr List.mem_cons_self; cases this
  | a :: l, [], _, _, h => by have := (h a).mp List.mem_cons_self; cases this
  | a :: l, b :: m, hl, hm, h => by
    obtain ⟨l1, l2⟩ := List.pairwise_cons.mp hl
    obtain ⟨m1, m2⟩ := List.pairwise_cons.mp hm
    have e : a = b := by
      have ha := (h a).mp List.mem_cons_self
      have hb := (h b).mpr List.mem_cons_self
      rcases List.mem_cons.mp ha with e | ha
      · exact e
      · rcases List.mem_cons.mp hb with e | hb
        · exact e.symm
        · have := l1 b hb
          have := m1 a ha
          omega
    subst e
    have e2 : l = m := rise_ext l2 m2 fun c => by
      constructor
      · intro hc
        have h1 := l1 c hc
        rcases List.mem_cons.mp ((h c).mp (List.mem_cons_of_mem _ hc)) with e | h2
        · omega
        · exact h2
      · intro hc
        have h1 := m1 c hc
        rcases List.mem_cons.mp ((h c).mpr (List.mem_cons_of_mem _ hc)) with e | h2
        · omega
        · exact h2
    rw [e2]
/-- sorted pairs are a board -/
theorem sort_bd {ps : List (Int × Int)} (hn : ps.Nodup) (hb : ∀ p ∈ ps, Inn p) : ∃ l : List Nat, D.lst ((ps.mergeSort leP).map Cn.prD) = bd l ∧ RiseB (-16) l ∧ l.length = ps.length ∧ ∀ c, c ∈ l ↔ c < 256 ∧ pc c ∈ ps := by
  have hp : (ps.mergeSort leP).Perm ps := List.mergeSort_perm ps leP
  have hs : (ps.mergeSort leP).Pairwise fun a b => leP a b = true := List.pairwise_mergeSort (fun a b c h1 h2 => by
      have h1 := leP_iff.mp h1
      have h2 := leP_iff.mp h2
      exact leP_iff.mpr (by omega)) (fun a b => by
      rw [Bool.or_eq_true, leP_iff, leP_iff]
      omega) ps
  have hn2 : (ps.mergeSort leP).Nodup := hp.nodup_iff.mpr hn
  have hb2 : ∀ p ∈ ps.mergeSort leP, Inn p := fun p h => hb p (hp.mem_iff.mp h)
  generalize hq : ps.mergeSort leP = qs at hp hs hn2 hb2
  have h256 : ∀ p ∈ qs, co p < 256 := fun p h => by
    have := hb2 p h
    unfold Inn at this
    unfold co
    omega
  refine ⟨qs.map co, ?_, rise_of ?_ ?_ ?_, by rw [List.length_map, hp.length_eq], fun c => ?_⟩
  · show D.lst _ = D.lst _
    congr 1
    rw [List.map_map]
    refine List.map_congr_left fun p h => ?_
    show Cn.prD p = pr (co p)
    rw [pr_pc, pc_co (hb2 p h)]
  · rw [List.pairwise_map]
    have : ∀ {l : List (Int × Int)}, (∀ p ∈ l, Inn p) → l.Nodup → (l.Pairwise fun a b => leP a b = true) → l.Pairwise fun a b => co a < co b := by
      intro l
      induction l with
      | nil => intro _ _ _; exact .nil
      | cons a r ih =>
        intro h1 h2 h3
        obtain ⟨n1, n2⟩ := List.nodup_cons.mp h2
        obtain ⟨s1, s2⟩ := List.pairwise_cons.mp h3
        refine List.pairwise_cons.mpr ⟨fun b hb => ?_, ih (fun p hp => h1 p (List.mem_cons_of_mem _ hp)) n2 s2⟩
        have ia := h1 a List.mem_cons_self
        have ib := h1 b (List.mem_cons_of_mem _ hb)
        have hab := leP_iff.mp (s1 b hb)
        have hne : ¬ (a.1 = b.1 ∧ a.2 = b.2) := fun z => n1 (by rw [Prod.ext z.1 z.2]; exact hb)
        unfold Inn at ia ib
        unfold co
        omega
    exact this hb2 hn2 hs
  · intro c hc
    obtain ⟨p, h, rfl⟩ := List.mem_map.mp hc
    exact h256 p h
  · intro c hc
    omega
  · constructor
    · intro hc
      obtain ⟨p, h, rfl⟩ := List.mem_map.mp hc
      exact ⟨h256 p h, by rw [pc_co (hb2 p h)]; exact hp.mem_iff.mp h⟩
    · rintro ⟨h1, h2⟩
      exact List.mem_map.mpr ⟨pc c, hp.mem_iff.mpr h2, co_pc c⟩
theorem toPrs_map : ∀ ps : List (Int × Int), toPrs (ps.map Cn.prD) = some ps
  | [] => rfl
  | p :: r => by
    show (toPrs (r.map Cn.prD)).map (p :: ·) = _
    rw [toPrs_map r]
    rfl
theorem sort_prs (ps : List (Int × Int)) : sortD (.lst (ps.map Cn.prD)) = .ok (.lst ((ps.mergeSort leP).map Cn.prD)) := by
  show (match toPrs (ps.map Cn.prD) with | some ps => R.ok (D.lst ((ps.mergeSort leP).map Cn.prD)) | none => .stuck) = _
  rw [toPrs_map]
/-- a loop that keeps a promise -/
theorem inv_loop {α β : Type} {ga : D → En → Option En} {F : SFn} {enc : β → D} {st : α → Sl → En} {P : Nat → α → Prop} {N : Nat} : ∀ (l : List β) (i : Nat) (a : α) (j : Sl), i + l.length ≤ N → P i a →
    (∀ b ∈ l, ∀ (i : Nat) (a : α) (j : Sl), i < N → P i a → ∃ e a' j', ga (enc b) (st a j) = some e ∧ F e = .nx (st a' j') ∧ P (i + 1) a') → ∃ a' j', forL ga F (l.map enc) (st a j) = .nx (st a' j') ∧ P (i + l.length) a'
  | [], i, a, j, _, h, _ => ⟨a, j, rfl, h⟩
  | b :: r, i, a, j, hl, h, hs => by
    rw [List.length_cons] at hl
    obtain ⟨e, a1, j1, h1, h2, h3⟩ := hs b List.mem_cons_self i a j (by omega) h
    obtain ⟨a2, j2, h4, h5⟩ := inv_loop r (i + 1) a1 j1 (by omega) h3 fun b hb => hs b (List.mem_cons_of_mem _ hb)
    refine ⟨a2, j2, ?_, by rw [List.length_cons, show i + (r.length + 1) = i + 1 + r.length by omega]; exact h5⟩
    rw [List.map_cons, forL_cons, h1]
    dsimp only
    rw [h2]
    exact h4
/-- all places of the board -/
def grid (B : Nat) : List Nat := (List.range B).flatMap fun x => (List.range B).map fun y => 16 * x + y
theorem mem_grid {B c : Nat} (hB : B ≤ 16) : c ∈ grid B ↔ c / 16 < B ∧ c % 16 < B := by
  unfold grid
  constructor
  · intro h
    obtain ⟨x, hx, h⟩ := List.mem_flatMap.mp h
    obtain ⟨y, hy, rfl⟩ := List.mem_map.mp h
    have := List.mem_range.mp hx
    have := List.mem_range.mp hy
    omega
  · rintro ⟨h1, h2⟩
    exact List.mem_flatMap.mpr ⟨c / 16, List.mem_range.mpr h1, List.mem_map.mpr ⟨c % 16, List.mem_range.mpr h2, by omega⟩⟩
theorem grid3 : (grid 3).Pairwise (· < ·) := by decide +kernel
theorem grid16 : (grid 16).Pairwise (· < ·) := by decide +kernel
theorem ovr_one {f : Nat → Nat} {a : Nat} : ∀ {g : List Nat}, g.Nodup → ovr (fun k => if k = a then f k else 0) g = if a ∈ g then f a else 0
  | [], _ => by simp [ovr_nil]
  | k :: r, h => by
    obtain ⟨h1, h2⟩ := List.nodup_cons.mp h
    rw [ovr_cons, ovr_one h2]
    by_cases e : k = a
    · subst e
      rw [if_pos rfl, if_neg h1, if_pos (List.mem_cons_self ..), Nat.xor_zero]
    · rw [if_neg e, Nat.zero_xor]
      by_cases e2 : a ∈ r
      · rw [if_pos e2, if_pos (List.mem_cons_of_mem _ e2)]
      · rw [if_neg e2, if_neg (fun z => (List.mem_cons.mp z).elim (fun z => e z.symm) e2)]
theorem ovr_in {f : Nat → Nat} {g : List Nat} (hg : g.Nodup) : ∀ {t : List Nat}, t.Nodup → (∀ k ∈ t, k ∈ g) → ovr (fun k => if k ∈ t then f k else 0) g = ovr f t
  | [], _, _ => by
    rw [ovr_nil]
    exact (ovr_congr (g := fun _ => 0) fun k _ => if_neg List.not_mem_nil).trans (ovr_zero g)
  | a :: r, h, hm => by
    obtain ⟨h1, h2⟩ := List.nodup_cons.mp h
    rw [ovr_cons, ← ovr_in hg h2 fun k hk => hm k (List.mem_cons_of_mem _ hk)]
    have e := @ovr_one f a g hg
    rw [if_pos (hm a (List.mem_cons_self ..))] at e
    rw [← e, ← ovr_xor]
    refine ovr_congr fun k _ => ?_
    by_cases z : k = a
    · subst z
      rw [if_pos (List.mem_cons_self ..), if_pos rfl, if_neg h1, Nat.xor_zero]
    · rw [if_neg z, Nat.zero_xor]
      by_cases z2 : k ∈ r
      · rw [if_pos z2, if_pos (List.mem_cons_of_mem _ z2)]
      · rw [if_neg z2, if_neg (fun y => (List.mem_cons.mp y).elim z z2)]
/-- head up there behind the turn -/
def bq (l cr : List Nat) (c : Nat) : Bool := !decide (decide (c ∈ l) = decide (c ∈ cr))
def brow (l cr : List Nat) (B x : Nat) : List Nat := ((List.range B).filter fun y => bq l cr (16 * x + y)).map fun y => 16 * x + y
def left (l cr : List Nat) (B : Nat) : List Nat := (List.range B).flatMap (brow l cr B)
theorem left_eq (l cr : List Nat) (B : Nat) : left l cr B = (grid B).filter (bq l cr) := by
  unfold left grid
  have : ∀ xs : List Nat, xs.flatMap (brow l cr B) = (xs.flatMap fun x => (List.range B).map fun y => 16 * x + y).filter (bq l cr) := by
    intro xs
    induction xs with
    | nil => rfl
    | cons x r ih =>
      rw [List.flatMap_cons, List.flatMap_cons, List.filter_append, ih, List.filter_map]
      rfl
  exact this _
theorem brow_len (l cr : List Nat) (B x : Nat) : (brow l cr B x).length ≤ B := by
  unfold brow
  rw [List.length_map]
  have := List.length_filter_le (fun y => bq l cr (16 * x + y)) (List.range B)
  rw [List.length_range] at this
  exact this
theorem rise_nodup : ∀ {l : List Nat} {b : Int}, RiseB b l → (∀ c ∈ l, b < (c : Int)) ∧ l.Nodup
  | [], _, _ => ⟨fun c hc => (by cases hc), List.nodup_nil⟩
  | a :: r, b, h => by
    obtain ⟨h1, h2⟩ := rise_nodup h.2.2
    have h0 := h.1
    refine ⟨fun c hc => ?_, List.nodup_cons.mpr ⟨fun z => ?_, h2⟩⟩
    · rcases List.mem_cons.mp hc with rfl | hc
      · exact h0
      · have := h1 c hc; omega
    · have := h1 a z
      omega
theorem left_ok {l cr : List Nat} {B : Nat} (hB : B ≤ 16) (hG : (grid B).Pairwise (· < ·)) : RiseB (-16) (left l cr B) ∧ (∀ c ∈ left l cr B, c / 16 < B ∧ c % 16 < B) ∧ (left l cr B).length ≤ 256 := by
  have hm : ∀ c ∈ left l cr B, c / 16 < B ∧ c % 16 < B := fun c hc => by
    rw [left_eq] at hc
    exact (mem_grid hB).mp (List.mem_filter.mp hc).1
  refine ⟨rise_of ?_ (fun c hc => by have := hm c hc; omega) (fun c hc => by omega), hm, ?_⟩
  · rw [left_eq]
    exact hG.filter _
  · have : ∀ xs : List Nat, (xs.flatMap (brow l cr B)).length ≤ xs.length * 16 := by
      intro xs
      induction xs with
      | nil => exact Nat.le_refl _
      | cons x r ih =>
        have := brow_len l cr B x
        rw [List.flatMap_cons, List.length_append, List.length_cons]
        omega
    have h := this (List.range B)
    rw [List.length_range] at h
    unfold left
    omega
theorem left_sum {f : Nat → Nat} {l cr : List Nat} {B : Nat} (hG : (grid B).Pairwise (· < ·)) (hl : l.Nodup) (hlm : ∀ k ∈ l, k ∈ grid B) (hc : cr.Nodup) (hcm : ∀ k ∈ cr, k ∈ grid B) : ovr f (left l cr B) = ovr f l ^^^ ovr f cr := by
  have hn : (grid B).Nodup := hG.imp fun {a b} h z => by omega
  rw [left_eq, ovr_filter, ← ovr_in hn hl hlm, ← ovr_in hn hc hcm, ← ovr_xor]
  refine ovr_congr fun k _ => ?_
  unfold bq
  by_cases h1 : k ∈ l <;> by_cases h2 : k ∈ cr <;> simp [h1, h2]
def bcond : EF := (eOp neD (eOp inD (eTup (aCons (eV 13) (aCons (eV 14) aNil))) (eV 3)) (eOp inD (eTup (aCons (eV 13) (aCons (eV 14) aNil))) (eV 11)))
def bb1 : SFn := (sAsg 12 (eOp addD (eV 12) (eComp (iR1 (eV 1)) 14 bcond (eTup (aCons (eV 13) (aCons (eV 14) aNil))))))
def dq (l cr : List Nat) (x : Nat) : D → Bool
  | .int i => bq l cr (16 * x + i.toNat)
  | _ => false
theorem bb1_turn {B x : Nat} (hB : B ≤ 16) (l cr fs : List Nat) (hf : fs.length ≤ 1000) (s2 s4 s5 s6 s7 s8 s9 s10 s14 : Sl) :
    bb1 [.no, .val (iN B), s2, .val (bd l), s4, s5, s6, s7, s8, s9, s10, .val (bd cr), .val (bd fs), .val (iN x), s14] =
      .nx [.no, .val (iN B), s2, .val (bd l), s4, s5, s6, s7, s8, s9, s10, .val (bd cr), .val (bd (fs ++ brow l cr B x)), .val (iN x), s14] := by
  have hr : rg1D (iN B) = .ok ((List.range B).map iN) := by
    rw [rg1_ok (by omega)]
    exact congrArg R.ok (rgL_nat B)
  have hc : compL 14 bcond (eTup (aCons (eV 13) (aCons (eV 14) aNil))) [.no, .val (iN B), s2, .val (bd l), s4, s5, s6, s7, s8, s9, s10, .val (bd cr), .val (bd fs), .val (iN x), s14] ((List.range B).map iN) = .ok ((brow l cr B x).map pr) := by
    rw [compL_if (p := dq l cr x) (g := fun d => .tup [iN x, d])]
    · congr 1
      unfold brow
      rw [List.filter_map, List.map_map, List.map_map]
      have e : (List.range B).filter (dq l cr x ∘ iN) = (List.range B).filter fun y => bq l cr (16 * x + y) := by
        apply List.filter_congr
        intro y _
        rfl
      rw [e]
      apply List.map_congr_left
      intro y hy
      have := List.mem_range.mp (List.mem_filter.mp hy).1
      exact cell_xy (by omega)
    · intro d hd
      obtain ⟨y, hy, rfl⟩ := List.mem_map.mp hd
      have hy := List.mem_range.mp hy
      have h1 := in_bd (16 * x + y) l
      have h2 := in_bd (16 * x + y) cr
      rw [← cell_xy (show y < 16 by omega)] at h1 h2
      unfold bcond
      simp only [Cn.runF_a, Cn.sSeq_a, Cn.sIf_a, Cn.sAsg_a, Cn.sOwn_a, Cn.sRet_a, Cn.sRetO_a, Cn.sNil_a, Cn.sRaise_a, Cn.sExpr_a, Cn.sFrz_a, Cn.sDrop_a, Cn.frz_a, Cn.sApp_a, Cn.sExt_a, Cn.sPut_a, Cn.sPutD_a, Cn.sFor_a, Cn.sWhile_a, Cn.eV_a, Cn.eO_a, Cn.eC_a, Cn.eOp_a, Cn.eUn_a, Cn.eAnd_a, Cn.eOr_a, Cn.eChain_a, Cn.eLst_a, Cn.eTup_a, Cn.eCall_a, Cn.eCallB_a, Cn.eSl_a, Cn.eComp_a, Cn.eYes_a, Cn.aNil_a, Cn.aCons_a, Cn.oNone_a, Cn.oSome_a, Cn.eDict1_a, Cn.iL_a, Cn.iT_a, Cn.iR1_a, Cn.iR2_a, Cn.iR3_a, Cn.tgN_a, Cn.bind_ok, Cn.bind_ex, Cn.rOut_ok, Cn.rOut_ex, List.map_cons, List.map_nil, List.length_cons, List.length_nil, List.cons_append, List.nil_append, List.replicate, List.set, List.getElem?_cons_zero, List.getElem?_cons_succ, Nat.reduceAdd, Nat.reduceSub, Cn.addD, Cn.subD, Cn.negD, Cn.notD, Cn.ltD, Cn.gtD, Cn.geD, Cn.leD, Cn.lenD, Cn.intD, Cn.listD, Cn.seqD, Cn.tupD, Cn.isi_ii, Cn.isi_ib, Cn.isi_bb, Cn.isi_ll, Cn.isi_tt, Cn.isi_ss, Cn.eqD_ii, Cn.neD_ii, Cn.eqD_ss, Cn.neD_ss, Cn.eqD_bb, Cn.neD_bb, decide_true, decide_false, Bool.not_true, Bool.not_false, h1, h2]
      rfl
    · intro d hd _
      simp only [Cn.runF_a, Cn.sSeq_a, Cn.sIf_a, Cn.sAsg_a, Cn.sOwn_a, Cn.sRet_a, Cn.sRetO_a, Cn.sNil_a, Cn.sRaise_a, Cn.sExpr_a, Cn.sFrz_a, Cn.sDrop_a, Cn.frz_a, Cn.sApp_a, Cn.sExt_a, Cn.sPut_a, Cn.sPutD_a, Cn.sFor_a, Cn.sWhile_a, Cn.eV_a, Cn.eO_a, Cn.eC_a, Cn.eOp_a, Cn.eUn_a, Cn.eAnd_a, Cn.eOr_a, Cn.eChain_a, Cn.eLst_a, Cn.eTup_a, Cn.eCall_a, Cn.eCallB_a, Cn.eSl_a, Cn.eComp_a, Cn.eYes_a, Cn.aNil_a, Cn.aCons_a, Cn.oNone_a, Cn.oSome_a, Cn.eDict1_a, Cn.iL_a, Cn.iT_a, Cn.iR1_a, Cn.iR2_a, Cn.iR3_a, Cn.tgN_a, Cn.bind_ok, Cn.bind_ex, Cn.rOut_ok, Cn.rOut_ex, List.map_cons, List.map_nil, List.length_cons, List.length_nil, List.cons_append, List.nil_append, List.replicate, List.set, List.getElem?_cons_zero, List.getElem?_cons_succ, Nat.reduceAdd, Nat.reduceSub, Cn.addD, Cn.subD, Cn.negD, Cn.notD, Cn.ltD, Cn.gtD, Cn.geD, Cn.leD, Cn.lenD, Cn.intD, Cn.listD, Cn.seqD, Cn.tupD, Cn.isi_ii, Cn.isi_ib, Cn.isi_bb, Cn.isi_ll, Cn.isi_tt, Cn.isi_ss, Cn.eqD_ii, Cn.neD_ii, Cn.eqD_ss, Cn.neD_ss, Cn.eqD_bb, Cn.neD_bb, decide_true, decide_false, Bool.not_true, Bool.not_false]
  have hlen := brow_len l cr B x
  unfold bb1
  simp only [Cn.runF_a, Cn.sSeq_a, Cn.sIf_a, Cn.sAsg_a, Cn.sOwn_a, Cn.sRet_a, Cn.sRetO_a, Cn.sNil_a, Cn.sRaise_a, Cn.sExpr_a, Cn.sFrz_a, Cn.sDrop_a, Cn.frz_a, Cn.sApp_a, Cn.sExt_a, Cn.sPut_a, Cn.sPutD_a, Cn.sFor_a, Cn.sWhile_a, Cn.eV_a, Cn.eO_a, Cn.eC_a, Cn.eOp_a, Cn.eUn_a, Cn.eAnd_a, Cn.eOr_a, Cn.eChain_a, Cn.eLst_a, Cn.eTup_a, Cn.eCall_a, Cn.eCallB_a, Cn.eSl_a, Cn.eComp_a, Cn.eYes_a, Cn.aNil_a, Cn.aCons_a, Cn.oNone_a, Cn.oSome_a, Cn.eDict1_a, Cn.iL_a, Cn.iT_a, Cn.iR1_a, Cn.iR2_a, Cn.iR3_a, Cn.tgN_a, Cn.bind_ok, Cn.bind_ex, Cn.rOut_ok, Cn.rOut_ex, List.map_cons, List.map_nil, List.length_cons, List.length_nil, List.cons_append, List.nil_append, List.replicate, List.set, List.getElem?_cons_zero, List.getElem?_cons_succ, Nat.reduceAdd, Nat.reduceSub, Cn.addD, Cn.subD, Cn.negD, Cn.notD, Cn.ltD, Cn.gtD, Cn.geD, Cn.leD, Cn.lenD, Cn.intD, Cn.listD, Cn.seqD, Cn.tupD, Cn.isi_ii, Cn.isi_ib, Cn.isi_bb, Cn.isi_ll, Cn.isi_tt, Cn.isi_ss, Cn.eqD_ii, Cn.neD_ii, Cn.eqD_ss, Cn.neD_ss, Cn.eqD_bb, Cn.neD_bb, decide_true, decide_false, Bool.not_true, Bool.not_false, hr, List.length_map, List.length_range, if_pos (le_LIM (show B ≤ 1000000 by omega)), hc, if_pos (le_LIM (show fs.length + (brow l cr B x).length ≤ 1000000 by omega))]
  rw [← List.map_append]
theorem bb1_loop {B : Nat} (hB : B ≤ 16) (l cr : List Nat) (s2 s4 s5 s6 s7 s8 s9 s10 s14 : Sl) : ∃ s13, forL (tgN 13) bb1 ((List.range B).map iN) [.no, .val (iN B), s2, .val (bd l), s4, s5, s6, s7, s8, s9, s10, .val (bd cr), .val (.lst []), .no, s14] =
    .nx [.no, .val (iN B), s2, .val (bd l), s4, s5, s6, s7, s8, s9, s10, .val (bd cr), .val (bd (left l cr B)), s13, s14] := by
  obtain ⟨s', h, _⟩ := fold_loop (ga := tgN 13) (F := bb1) (J := Sl) (P := fun i (fs : List Nat) => fs.length ≤ 16 * i) (N := 16) (enc := iN)
    (st := fun fs s => [.no, .val (iN B), s2, .val (bd l), s4, s5, s6, s7, s8, s9, s10, .val (bd cr), .val (bd fs), s, s14]) (nxt := fun fs x => fs ++ brow l cr B x) (List.range B) 0 [] .no (by rw [List.length_range]; omega) (Nat.le_refl _) fun i fs s x hi hx hP =>
      ⟨_, .val (iN x), rfl, bb1_turn hB l cr fs (by omega) _ _ _ _ _ _ _ _ _, by have := brow_len l cr B x; rw [List.length_append]; omega⟩
  rw [foldl_app, List.nil_append] at h
  exact ⟨s', h⟩
section
variable {rx ry : D} {Sx Sy : Nat → List (List Nat)} {B : Nat}
theorem shaped_ne {S : Nat → List (List Nat)} {p : Nat} (h : Cn.Shaped S p) {s : List Nat} (hs : s ∈ S p) : zs s ≠ [] := by
  intro z
  unfold zs at z
  have z := List.map_eq_nil_iff.mp z
  have := (h s hs).1
  rw [z] at this
  cases this
theorem args_ok (X : Ok14 rx Sx B) (Y : Ok14 ry Sy B) (l : List Nat) : ([rx, ry, bd l] : List D).all argO = true := by
  have h1 : argO rx = true := by unfold argO; rw [X.flat]; rfl
  have h2 : argO ry = true := by unfold argO; rw [Y.flat]; rfl
  have h3 : argO (bd l) = true := by
    unfold argO
    have : lstT (bd l) = true := by
      show (l.map pr).all tupT = true
      rw [List.all_eq_true]
      intro d hd
      obtain ⟨c, _, rfl⟩ := List.mem_map.mp hd
      rfl
    rw [this, Bool.or_true]
  rw [List.all_cons, List.all_cons, List.all_cons, h1, h2, h3]
  rfl
theorem two_tw (t : List Nat × List Nat) : twoT (zs t.1) (zs t.2) = tw t := by
  unfold twoT
  rw [zs_il, zs_il]
noncomputable def fcall : EF := (eCallP fn_board_reply (aCons (eOp ixD (eV 2) (eC (.int 0))) (aCons (eOp ixD (eV 2) (eC (.int 1))) (aCons (eV 8) aNil))))
theorem fcall_ok (X : Ok14 rx Sx B) (Y : Ok14 ry Sy B) {l : List Nat} {d : D} (h : fn_board_reply [rx, ry, bd l] = .ok d) (hd : ResOk [rx, ry, bd l] d) (s1 s3 s4 s5 s6 : Sl) :
    fcall [.no, s1, .val (.lst [rx, ry]), s3, s4, s5, s6, .no, .val (bd l), .no, .no, .no, .no, .no, .no] = .ok d := by
  unfold fcall eCallP
  simp only [Cn.runF_a, Cn.sSeq_a, Cn.sIf_a, Cn.sAsg_a, Cn.sOwn_a, Cn.sRet_a, Cn.sRetO_a, Cn.sNil_a, Cn.sRaise_a, Cn.sExpr_a, Cn.sFrz_a, Cn.sDrop_a, Cn.frz_a, Cn.sApp_a, Cn.sExt_a, Cn.sPut_a, Cn.sPutD_a, Cn.sFor_a, Cn.sWhile_a, Cn.eV_a, Cn.eO_a, Cn.eC_a, Cn.eOp_a, Cn.eUn_a, Cn.eAnd_a, Cn.eOr_a, Cn.eChain_a, Cn.eLst_a, Cn.eTup_a, Cn.eCall_a, Cn.eCallB_a, Cn.eSl_a, Cn.eComp_a, Cn.eYes_a, Cn.aNil_a, Cn.aCons_a, Cn.oNone_a, Cn.oSome_a, Cn.eDict1_a, Cn.iL_a, Cn.iT_a, Cn.iR1_a, Cn.iR2_a, Cn.iR3_a, Cn.tgN_a, Cn.bind_ok, Cn.bind_ex, Cn.rOut_ok, Cn.rOut_ex, List.map_cons, List.map_nil, List.length_cons, List.length_nil, List.cons_append, List.nil_append, List.replicate, List.set, List.getElem?_cons_zero, List.getElem?_cons_succ, Nat.reduceAdd, Nat.reduceSub, Cn.addD, Cn.subD, Cn.negD, Cn.notD, Cn.ltD, Cn.gtD, Cn.geD, Cn.leD, Cn.lenD, Cn.intD, Cn.listD, Cn.seqD, Cn.tupD, Cn.isi_ii, Cn.isi_ib, Cn.isi_bb, Cn.isi_ll, Cn.isi_tt, Cn.isi_ss, Cn.eqD_ii, Cn.neD_ii, Cn.eqD_ss, Cn.neD_ss, Cn.eqD_bb, Cn.neD_bb, decide_true, decide_false, Bool.not_true, Bool.not_false, ll0, ll1]
  rw [if_pos (args_ok X Y l), h]
  exact if_pos hd
theorem nd_nl (l : List Nat) : nd 0 (l.map iN) := nd_map (fun n => nd_int _) l
theorem tail_ok (X : Ok14 rx Sx B) (Y : Ok14 ry Sy B) (hB : 0 < B ∧ B ≤ 16) (hG : (grid B).Pairwise (· < ·)) {l : List Nat} (hR : RiseB (-16) l) (hl : ∀ c ∈ l, c / 16 < B ∧ c % 16 < B) {t : List Nat × List Nat} {c : Nat} (hc : c / 16 < B ∧ c % 16 < B) (hx : t.1 ∈ Sx (c / 16)) (hy : t.2 ∈ Sy (c % 16)) (hs : fp Sx Sy t = ovr (fb Sx Sy) l) (s4 s5 s6 s7 s8 s9 : Sl) :
    b_law_tail [.no, .val (iN B), .val (.lst [rx, ry]), .val (bd l), s4, s5, s6, s7, s8, s9, .val (tw t), .no, .no, .no, .no] = .rt (.bl true) := by
  have y16 : ∀ y ∈ t.2, y < 16 := fun y h => Nat.lt_of_lt_of_le (Y.lt hc.2 hy y h) hB.2
  have hcr := lcrossed_ok y16 (X.ok _ hc.1 _ hx).2 (Y.ok _ hc.2 _ hy).2
  have hcm : ∀ k ∈ crossed t.1 t.2, k / 16 < B ∧ k % 16 < B := fun k hk => ⟨X.lt hc.1 hx _ (mem_crossed y16 hk).1, Y.lt hc.2 hy _ (mem_crossed y16 hk).2⟩
  have hcn := crossed_nodup y16 (Y.ok _ hc.2 _ hy).1 (X.ok _ hc.1 _ hx).1
  have hsum := @left_sum (fb Sx Sy) l (crossed t.1 t.2) B hG (rise_nodup hR).2 (fun k hk => (mem_grid hB.2).mpr (hl k hk)) hcn (fun k hk => (mem_grid hB.2).mpr (hcm k hk))
  rw [ovr_crossed y16, show fp Sx Sy (t.1, t.2) = fp Sx Sy t from rfl, hs, Nat.xor_self] at hsum
  obtain ⟨h1, h2, h3⟩ := @left_ok l (crossed t.1 t.2) B hB.2 hG
  have hz := breply_zero X.k Y.k h1 h2 hB.1 (by omega) hsum
  obtain ⟨s13, e⟩ := @bb1_loop B hB.2 l (crossed t.1 t.2) (.val (.lst [rx, ry])) s4 s5 s6 s7 s8 s9 (.val (tw t)) .no
  have hr : rg1D (iN B) = .ok ((List.range B).map iN) := by
    rw [rg1_ok (by omega)]
    exact congrArg R.ok (rgL_nat B)
  have hb : b_law_tail = (sSeq (sAsg 11 (eCall fn__law_crossed (aCons (eOp ixD (eV 10) (eC (.int 0))) (aCons (eOp ixD (eV 10) (eC (.int 1))) aNil))))
    (sSeq (sAsg 12 (eLst aNil))
    (sSeq (sFor (iR1 (eV 1)) (tgN 13) bb1)
    (sRet (eOp isND (eCall fn_board_reply (aCons (eOp ixD (eV 2) (eC (.int 0))) (aCons (eOp ixD (eV 2) (eC (.int 1))) (aCons (eV 12) aNil)))) (eC .non)))))) := by
    unfold b_law_tail bb1 bcond
    rfl
  rw [hb]
  simp only [Cn.runF_a, Cn.sSeq_a, Cn.sIf_a, Cn.sAsg_a, Cn.sOwn_a, Cn.sRet_a, Cn.sRetO_a, Cn.sNil_a, Cn.sRaise_a, Cn.sExpr_a, Cn.sFrz_a, Cn.sDrop_a, Cn.frz_a, Cn.sApp_a, Cn.sExt_a, Cn.sPut_a, Cn.sPutD_a, Cn.sFor_a, Cn.sWhile_a, Cn.eV_a, Cn.eO_a, Cn.eC_a, Cn.eOp_a, Cn.eUn_a, Cn.eAnd_a, Cn.eOr_a, Cn.eChain_a, Cn.eLst_a, Cn.eTup_a, Cn.eCall_a, Cn.eCallB_a, Cn.eSl_a, Cn.eComp_a, Cn.eYes_a, Cn.aNil_a, Cn.aCons_a, Cn.oNone_a, Cn.oSome_a, Cn.eDict1_a, Cn.iL_a, Cn.iT_a, Cn.iR1_a, Cn.iR2_a, Cn.iR3_a, Cn.tgN_a, Cn.bind_ok, Cn.bind_ex, Cn.rOut_ok, Cn.rOut_ex, List.map_cons, List.map_nil, List.length_cons, List.length_nil, List.cons_append, List.nil_append, List.replicate, List.set, List.getElem?_cons_zero, List.getElem?_cons_succ, Nat.reduceAdd, Nat.reduceSub, Cn.addD, Cn.subD, Cn.negD, Cn.notD, Cn.ltD, Cn.gtD, Cn.geD, Cn.leD, Cn.lenD, Cn.intD, Cn.listD, Cn.seqD, Cn.tupD, Cn.isi_ii, Cn.isi_ib, Cn.isi_bb, Cn.isi_ll, Cn.isi_tt, Cn.isi_ss, Cn.eqD_ii, Cn.neD_ii, Cn.eqD_ss, Cn.neD_ss, Cn.eqD_bb, Cn.neD_bb, decide_true, decide_false, Bool.not_true, Bool.not_false, tw0, tw1, hcr, hr, e, ll0, ll1, hz]
  rfl
theorem none_ok {l : List Nat} (hl : ∀ c ∈ l, c / 16 < B ∧ c % 16 < B) (hz : ovr (fb Sx Sy) l = 0) (s1 s2 s4 s6 : Sl) :
    b_law_p2 [.no, s1, s2, .val (bd l), s4, .val (nll (tab Sx Sy B)), s6, .no, .val (bd l), .val .non, .no, .no, .no, .no, .no] = .rt (.bl true) := by
  have ho := @lover_ok Sx Sy B l hl
  rw [hz] at ho
  have ho' : fn__law_over [nll (tab Sx Sy B), bd l] = .ok (.int 0) := ho
  have hne : neD (bd l) (bd l) = .ok (.bl false) := neD_self (nd_bd l)
  unfold b_law_p2
  simp only [Cn.runF_a, Cn.sSeq_a, Cn.sIf_a, Cn.sAsg_a, Cn.sOwn_a, Cn.sRet_a, Cn.sRetO_a, Cn.sNil_a, Cn.sRaise_a, Cn.sExpr_a, Cn.sFrz_a, Cn.sDrop_a, Cn.frz_a, Cn.sApp_a, Cn.sExt_a, Cn.sPut_a, Cn.sPutD_a, Cn.sFor_a, Cn.sWhile_a, Cn.eV_a, Cn.eO_a, Cn.eC_a, Cn.eOp_a, Cn.eUn_a, Cn.eAnd_a, Cn.eOr_a, Cn.eChain_a, Cn.eLst_a, Cn.eTup_a, Cn.eCall_a, Cn.eCallB_a, Cn.eSl_a, Cn.eComp_a, Cn.eYes_a, Cn.aNil_a, Cn.aCons_a, Cn.oNone_a, Cn.oSome_a, Cn.eDict1_a, Cn.iL_a, Cn.iT_a, Cn.iR1_a, Cn.iR2_a, Cn.iR3_a, Cn.tgN_a, Cn.bind_ok, Cn.bind_ex, Cn.rOut_ok, Cn.rOut_ex, List.map_cons, List.map_nil, List.length_cons, List.length_nil, List.cons_append, List.nil_append, List.replicate, List.set, List.getElem?_cons_zero, List.getElem?_cons_succ, Nat.reduceAdd, Nat.reduceSub, Cn.addD, Cn.subD, Cn.negD, Cn.notD, Cn.ltD, Cn.gtD, Cn.geD, Cn.leD, Cn.lenD, Cn.intD, Cn.listD, Cn.seqD, Cn.tupD, Cn.isi_ii, Cn.isi_ib, Cn.isi_bb, Cn.isi_ll, Cn.isi_tt, Cn.isi_ss, Cn.eqD_ii, Cn.neD_ii, Cn.eqD_ss, Cn.neD_ss, Cn.eqD_bb, Cn.neD_bb, decide_true, decide_false, Bool.not_true, Bool.not_false, hne, ho', decide_eq_true (show (0 : Int) = 0 from rfl)]
  rfl
theorem some_ok (X : Ok14 rx Sx B) (Y : Ok14 ry Sy B) (hB : 0 < B ∧ B ≤ 16) (hG : (grid B).Pairwise (· < ·)) {l : List Nat} (hR : RiseB (-16) l) (hl : ∀ c ∈ l, c / 16 < B ∧ c % 16 < B) {t : List Nat × List Nat} (ht : firstB Sx Sy l = some t) (hz : ovr (fb Sx Sy) l ≠ 0) (s4 s6 : Sl) (a : Addr) :
    b_law_p4 (zs t.1) (zs t.2) a [.no, .val (iN B), .val (.lst [rx, ry]), .val (bd l), s4, .val (nll (tab Sx Sy B)), s6, .no, .val (bd l), .val (.err a), .no, .no, .no, .no, .no] = .rt (.bl true) := by
  obtain ⟨c, hc, h1, h2, h3⟩ := first_of ht
  have ho := @lover_ok Sx Sy B l hl
  have hne : neD (bd l) (bd l) = .ok (.bl false) := neD_self (nd_bd l)
  have hd : decide (((ovr (fb Sx Sy) l : Nat) : Int) = 0) = false := decide_eq_false (by omega)
  have hf := lfirst_ok X Y hB.2 hl
  rw [ht] at hf
  have hf' : fn__law_first [.lst [rx, ry], nll (tab Sx Sy B), bd l] = .ok (tw t) := hf
  have l1 := (X.ok _ (hl c hc).1 _ h1).2
  have l2 := (Y.ok _ (hl c hc).2 _ h2).2
  have hi := @is_turn_ok t (by omega) (by omega)
  have hnn : isND (tw t) .non = .ok (.bl false) := rfl
  have hn2 : neD (nl t.2) (nl t.2) = .ok (.bl false) := neD_self (nd_nl t.2)
  have hx1 : ixD (twoT (zs t.1 ++ [16]) (zs t.2)) (.int 1) = .ok (nl t.2) := by
    rw [nl_zs]
    rfl
  have hlen : (zs t.1).length < 100000 := by unfold zs; rw [List.length_map]; omega
  have htl := tail_ok X Y hB hG hR hl (hl c hc) h1 h2 h3 s4 (.val (nll (tab Sx Sy B))) s6 .no (.val (bd l)) (.val (.err a))
  unfold b_law_p4
  simp only [sSeqP, sIfQ, sApp0]
  simp only [Cn.runF_a, Cn.sSeq_a, Cn.sIf_a, Cn.sAsg_a, Cn.sOwn_a, Cn.sRet_a, Cn.sRetO_a, Cn.sNil_a, Cn.sRaise_a, Cn.sExpr_a, Cn.sFrz_a, Cn.sDrop_a, Cn.frz_a, Cn.sApp_a, Cn.sExt_a, Cn.sPut_a, Cn.sPutD_a, Cn.sFor_a, Cn.sWhile_a, Cn.eV_a, Cn.eO_a, Cn.eC_a, Cn.eOp_a, Cn.eUn_a, Cn.eAnd_a, Cn.eOr_a, Cn.eChain_a, Cn.eLst_a, Cn.eTup_a, Cn.eCall_a, Cn.eCallB_a, Cn.eSl_a, Cn.eComp_a, Cn.eYes_a, Cn.aNil_a, Cn.aCons_a, Cn.oNone_a, Cn.oSome_a, Cn.eDict1_a, Cn.iL_a, Cn.iT_a, Cn.iR1_a, Cn.iR2_a, Cn.iR3_a, Cn.tgN_a, Cn.bind_ok, Cn.bind_ex, Cn.rOut_ok, Cn.rOut_ex, List.map_cons, List.map_nil, List.length_cons, List.length_nil, List.cons_append, List.nil_append, List.replicate, List.set, List.getElem?_cons_zero, List.getElem?_cons_succ, Nat.reduceAdd, Nat.reduceSub, Cn.addD, Cn.subD, Cn.negD, Cn.notD, Cn.ltD, Cn.gtD, Cn.geD, Cn.leD, Cn.lenD, Cn.intD, Cn.listD, Cn.seqD, Cn.tupD, Cn.isi_ii, Cn.isi_ib, Cn.isi_bb, Cn.isi_ll, Cn.isi_tt, Cn.isi_ss, Cn.eqD_ii, Cn.neD_ii, Cn.eqD_ss, Cn.neD_ss, Cn.eqD_bb, Cn.neD_bb, decide_true, decide_false, Bool.not_true, Bool.not_false, hne, ho, hd, hf', hnn, two_tw, hi, if_pos hlen, if_true, hx1, tw1, hn2, htl]
theorem core (X : Ok14 rx Sx B) (Y : Ok14 ry Sy B) (hB : 0 < B ∧ B ≤ 16) (hG : (grid B).Pairwise (· < ·)) {l : List Nat} (hR : RiseB (-16) l) (hl : ∀ c ∈ l, c / 16 < B ∧ c % 16 < B) (hlen : l.length ≤ 1000) :
    b_law_5 [.no, .val (iN B), .val (.lst [rx, ry]), .val (bd l), .no, .no, .no, .no, .no, .no, .no, .no, .no, .no, .no] = .rt (.bl true) := by
  obtain ⟨s6, et⟩ := table_ok X Y hB.2 (.val (iN B)) (.val (.lst [rx, ry])) (.val (bd l))
  have hb : b_law_5 = (sSeq (sAsg 4 (eCall fn__law_numbers (aCons (eOp ixD (eV 2) (eC (.int 1))) (aCons (eV 1) aNil))))
    (sSeq (sOwn 5 (eLst aNil))
    (sSeq (sFor (iL (eCall fn__law_numbers (aCons (eOp ixD (eV 2) (eC (.int 0))) (aCons (eV 1) aNil)))) (tgN 6) tb1)
    (sSeq (sAsg 8 (eUn listD (eV 3)))
    (sFrz 5 (sFreshB 9 fcall b_law_p2 b_law_p4)))))) := by
    unfold b_law_5 tb1 fcall
    rfl
  have hfin : sFreshB 9 fcall b_law_p2 b_law_p4 [.no, .val (iN B), .val (.lst [rx, ry]), .val (bd l), .val (nl (nums Sy B)), .val (nll (tab Sx Sy B)), s6, .no, .val (bd l), .no, .no, .no, .no, .no, .no] = .rt (.bl true) := by
    unfold sFreshB
    by_cases hz : ovr (fb Sx Sy) l = 0
    · have h := breply_zero X.k Y.k hR hl hB.1 hlen hz
      rw [fcall_ok X Y h (.inl rfl)]
      exact none_ok hl hz _ _ _ _
    · obtain ⟨t, ht⟩ := firstB_some tart17 (fun p hp => ⟨X.k.shaped p hp, X.low p hp⟩) (fun p hp => ⟨Y.k.shaped p hp, Y.low p hp⟩) hl hz
      have h := breply_ok X.k Y.k Y.flat hR hl hB.1 hlen hz
      rw [ht] at h
      obtain ⟨c, hc, h1, h2, h3⟩ := first_of ht
      have h' : fn_board_reply [rx, ry, bd l] = .ok (tw2 t) := h
      rw [fcall_ok X Y h' (.inr (.inr ⟨_, _, rfl, shaped_ne (X.k.shaped _ (hl c hc).1) h1, shaped_ne (Y.k.shaped _ (hl c hc).2) h2⟩))]
      refine if_pos ⟨by simp, fun a => ?_⟩
      exact some_ok X Y hB hG hR hl ht hz _ _ a
  rw [hb]
  simp only [Cn.runF_a, Cn.sSeq_a, Cn.sIf_a, Cn.sAsg_a, Cn.sOwn_a, Cn.sRet_a, Cn.sRetO_a, Cn.sNil_a, Cn.sRaise_a, Cn.sExpr_a, Cn.sFrz_a, Cn.sDrop_a, Cn.frz_a, Cn.sApp_a, Cn.sExt_a, Cn.sPut_a, Cn.sPutD_a, Cn.sFor_a, Cn.sWhile_a, Cn.eV_a, Cn.eO_a, Cn.eC_a, Cn.eOp_a, Cn.eUn_a, Cn.eAnd_a, Cn.eOr_a, Cn.eChain_a, Cn.eLst_a, Cn.eTup_a, Cn.eCall_a, Cn.eCallB_a, Cn.eSl_a, Cn.eComp_a, Cn.eYes_a, Cn.aNil_a, Cn.aCons_a, Cn.oNone_a, Cn.oSome_a, Cn.eDict1_a, Cn.iL_a, Cn.iT_a, Cn.iR1_a, Cn.iR2_a, Cn.iR3_a, Cn.tgN_a, Cn.bind_ok, Cn.bind_ex, Cn.rOut_ok, Cn.rOut_ex, List.map_cons, List.map_nil, List.length_cons, List.length_nil, List.cons_append, List.nil_append, List.replicate, List.set, List.getElem?_cons_zero, List.getElem?_cons_succ, Nat.reduceAdd, Nat.reduceSub, Cn.addD, Cn.subD, Cn.negD, Cn.notD, Cn.ltD, Cn.gtD, Cn.geD, Cn.leD, Cn.lenD, Cn.intD, Cn.listD, Cn.seqD, Cn.tupD, Cn.isi_ii, Cn.isi_ib, Cn.isi_bb, Cn.isi_ll, Cn.isi_tt, Cn.isi_ss, Cn.eqD_ii, Cn.neD_ii, Cn.eqD_ss, Cn.neD_ss, Cn.eqD_bb, Cn.neD_bb, decide_true, decide_false, Bool.not_true, Bool.not_false, ll0, ll1, X.ln, Y.ln, seq_nl, et, hfin]
end
def KeysOk (ks : List (List Int)) : Prop := ks.Nodup ∧ ∀ k ∈ ks, ∃ p : Int × Int, Inn p ∧ k = [p.1, p.2]
theorem keys_add {ks : List (List Int)} {p : Int × Int} (h : KeysOk ks) (hp : Inn p) : KeysOk (addK ks [p.1, p.2]) ∧ (addK ks [p.1, p.2]).length ≤ ks.length + 1 := by
  unfold addK
  by_cases q : [p.1, p.2] ∈ ks
  · rw [if_pos q]
    exact ⟨h, by omega⟩
  · rw [if_neg q]
    refine ⟨⟨?_, fun k hk => ?_⟩, by rw [List.length_append, List.length_singleton]; omega⟩
    · refine List.nodup_append.mpr ⟨h.1, by simp, fun a ha b hb => ?_⟩
      rw [List.mem_singleton] at hb
      subst hb
      exact fun z => q (z ▸ ha)
    · rcases List.mem_append.mp hk with hk | hk
      · exact h.2 k hk
      · rw [List.mem_singleton] at hk
        exact ⟨p, hp, hk⟩
theorem keys_prs : ∀ {ks : List (List Int)}, (∀ k ∈ ks, ∃ p : Int × Int, Inn p ∧ k = [p.1, p.2]) → ∃ ps, kPrs ks = some ps ∧ (∀ p ∈ ps, Inn p) ∧ ps.length = ks.length
  | [], _ => ⟨[], rfl, (fun p hp => by cases hp), rfl⟩
  | k :: r, h => by
    obtain ⟨p, hp, rfl⟩ := h k List.mem_cons_self
    obtain ⟨ps, h1, h2, h3⟩ := keys_prs (ks := r) fun k hk => h k (List.mem_cons_of_mem _ hk)
    refine ⟨p :: ps, ?_, fun q hq => ?_, by rw [List.length_cons, List.length_cons, h3]⟩
    · show (kPrs r).map _ = _
      rw [h1]
      rfl
    · rcases List.mem_cons.mp hq with rfl | hq
      · exact hp
      · exact h2 q hq
theorem keys_sort {ks : List (List Int)} (h : KeysOk ks) : ∃ l : List Nat, sortD (.dctT ks) = .ok (bd l) ∧ RiseB (-16) l ∧ l.length = ks.length := by
  obtain ⟨ps, h1, h2, h3⟩ := keys_prs h.2
  have hn : ps.Nodup := by
    have := h.1
    rw [kPrs_eq h1] at this
    have := List.pairwise_map.mp this
    exact this.imp fun {a b} z e => z (by rw [e])
  obtain ⟨l, q1, q2, q3, _⟩ := sort_bd hn h2
  refine ⟨l, ?_, q2, by rw [q3, h3]⟩
  show (match kPrs ks with | some ps => R.ok (D.lst ((ps.mergeSort leP).map Cn.prD)) | none => .stuck) = _
  rw [h1]
  show R.ok _ = R.ok _
  rw [q1]
theorem put_key (ks : List (List Int)) (a b : Int) (h : ks.length < 1000000) (i : Nat) (fk : EF) (env : En) (he : env[i]? = some (.own (.dctT ks))) (hk : fk env = .ok (.tup [.int a, .int b])) : sPutD i fk env = .nx (env.set i (.own (.dctT (addK ks [a, b])))) := by
  have ht : toInts [.int a, .int b] = some [a, b] := rfl
  simp only [sPutD_a, he, hk, rOut_ok, ht, if_pos (lt_LIM h)]
def ff1 : SFn := (sSeq (sAsg 3 (eCall fn__law_cell_at (aCons (eV 0) (aCons (eOp addD (eC (.int 5)) (eV 2)) aNil))))
    (sPutD 1 (eTup (aCons (eOp modD (eV 3) (eC (.int 16))) (aCons (eOp modD (eOp fdivD (eV 3) (eC (.int 16))) (eC (.int 16))) aNil)))))
theorem ff1_turn (ns : List Int) (ks : List (List Int)) (k : Nat) (h : ks.length ≤ 1000) (s3 : Sl) : ff1 [.val (.scr ns), .own (.dctT ks), .val (iN k), s3] =
    .nx [.val (.scr ns), .own (.dctT (addK ks [cell ns (5 + k) % 16, cell ns (5 + k) / 16 % 16])), .val (iN k), .val (.int (cell ns (5 + k)))] := by
  have hc := cell_at ns (5 + k) (5 + (k : Int)) (by omega)
  have m1 := @modD_pos (cell ns (5 + k)) 16 (by decide)
  have m2 := @modD_pos (cell ns (5 + k) / 16) 16 (by decide)
  have d1 := @fdivD_pos (cell ns (5 + k)) 16 (by decide)
  have hp := put_key ks (cell ns (5 + k) % 16) (cell ns (5 + k) / 16 % 16) (by omega) 1 (eTup (aCons (eOp modD (eV 3) (eC (.int 16))) (aCons (eOp modD (eOp fdivD (eV 3) (eC (.int 16))) (eC (.int 16))) aNil))) [.val (.scr ns), .own (.dctT ks), .val (iN k), .val (.int (cell ns (5 + k)))] rfl (by simp only [Cn.runF_a, Cn.sSeq_a, Cn.sIf_a, Cn.sAsg_a, Cn.sOwn_a, Cn.sRet_a, Cn.sRetO_a, Cn.sNil_a, Cn.sRaise_a, Cn.sExpr_a, Cn.sFrz_a, Cn.sDrop_a, Cn.frz_a, Cn.sApp_a, Cn.sExt_a, Cn.sPut_a, Cn.sPutD_a, Cn.sFor_a, Cn.sWhile_a, Cn.eV_a, Cn.eO_a, Cn.eC_a, Cn.eOp_a, Cn.eUn_a, Cn.eAnd_a, Cn.eOr_a, Cn.eChain_a, Cn.eLst_a, Cn.eTup_a, Cn.eCall_a, Cn.eCallB_a, Cn.eSl_a, Cn.eComp_a, Cn.eYes_a, Cn.aNil_a, Cn.aCons_a, Cn.oNone_a, Cn.oSome_a, Cn.eDict1_a, Cn.iL_a, Cn.iT_a, Cn.iR1_a, Cn.iR2_a, Cn.iR3_a, Cn.tgN_a, Cn.bind_ok, Cn.bind_ex, Cn.rOut_ok, Cn.rOut_ex, List.map_cons, List.map_nil, List.length_cons, List.length_nil, List.cons_append, List.nil_append, List.replicate, List.set, List.getElem?_cons_zero, List.getElem?_cons_succ, Nat.reduceAdd, Nat.reduceSub, Cn.addD, Cn.subD, Cn.negD, Cn.notD, Cn.ltD, Cn.gtD, Cn.geD, Cn.leD, Cn.lenD, Cn.intD, Cn.listD, Cn.seqD, Cn.tupD, Cn.isi_ii, Cn.isi_ib, Cn.isi_bb, Cn.isi_ll, Cn.isi_tt, Cn.isi_ss, Cn.eqD_ii, Cn.neD_ii, Cn.eqD_ss, Cn.neD_ss, Cn.eqD_bb, Cn.neD_bb, decide_true, decide_false, Bool.not_true, Bool.not_false, m1, m2, d1])
  unfold ff1
  simp only [sSeq_a, sAsg_a, eCall_a, aCons_a, aNil_a, eOp_a, eV_a, eC_a, List.getElem?_cons_zero, List.getElem?_cons_succ, bind_ok, rOut_ok, addD, hc, List.set, hp]
theorem far_ok (ns : List Int) : ∃ l : List Nat, fn__law_far [.scr ns] = .ok (bd l) ∧ RiseB (-16) l ∧ l.length ≤ 100 := by
  obtain ⟨m, hm, hm3⟩ : ∃ m : Nat, 1 + cell ns 4 % 3 = (m : Int) ∧ m ≤ 3 := ⟨(1 + cell ns 4 % 3).toNat, by omega, by omega⟩
  have m3 := @modD_pos (cell ns 4) 3 (by decide)
  have c4 := cell_at ns 4 4 rfl
  obtain ⟨⟨ks, s3⟩, s2, e, p1, p2⟩ := inv_loop (α := List (List Int) × Sl) (β := Nat) (ga := tgN 2) (F := ff1) (enc := iN) (st := fun a j => [.val (.scr ns), .own (.dctT a.1), j, a.2])
    (P := fun i a => KeysOk a.1 ∧ a.1.length ≤ i) (N := 3) (List.range m) 0 ([], .no) .no (by rw [List.length_range]; omega) ⟨⟨List.nodup_nil, fun k hk => by cases hk⟩, Nat.le_refl 0⟩ (fun k hk i a j hi hP => by
      obtain ⟨ks, s3⟩ := a
      have ha := keys_add hP.1 (p := (cell ns (5 + k) % 16, cell ns (5 + k) / 16 % 16)) (by unfold Inn; dsimp only; omega)
      have hP2 : ks.length ≤ i := hP.2
      refine ⟨_, (addK ks [cell ns (5 + k) % 16, cell ns (5 + k) / 16 % 16], .val (.int (cell ns (5 + k)))), .val (iN k), rfl, ff1_turn ns ks k (by omega) s3, ha.1, by have := ha.2; dsimp only at this ⊢; omega⟩)
  rw [List.length_range] at p2
  obtain ⟨l, z1, z2, z3⟩ := keys_sort p1
  have hr : rg1D (.int (m : Int)) = .ok ((List.range m).map iN) := by
    rw [rg1_ok (by omega)]
    exact congrArg R.ok (rgL_nat m)
  refine ⟨l, ?_, z2, by dsimp only at z3 p2; omega⟩
  unfold ff1 at e
  dsimp only at e z1
  unfold fn__law_far b__law_far
  simp only [Cn.runF_a, Cn.sSeq_a, Cn.sIf_a, Cn.sAsg_a, Cn.sOwn_a, Cn.sRet_a, Cn.sRetO_a, Cn.sNil_a, Cn.sRaise_a, Cn.sExpr_a, Cn.sFrz_a, Cn.sDrop_a, Cn.frz_a, Cn.sApp_a, Cn.sExt_a, Cn.sPut_a, Cn.sPutD_a, Cn.sFor_a, Cn.sWhile_a, Cn.eV_a, Cn.eO_a, Cn.eC_a, Cn.eOp_a, Cn.eUn_a, Cn.eAnd_a, Cn.eOr_a, Cn.eChain_a, Cn.eLst_a, Cn.eTup_a, Cn.eCall_a, Cn.eCallB_a, Cn.eSl_a, Cn.eComp_a, Cn.eYes_a, Cn.aNil_a, Cn.aCons_a, Cn.oNone_a, Cn.oSome_a, Cn.eDict1_a, Cn.iL_a, Cn.iT_a, Cn.iR1_a, Cn.iR2_a, Cn.iR3_a, Cn.tgN_a, Cn.bind_ok, Cn.bind_ex, Cn.rOut_ok, Cn.rOut_ex, List.map_cons, List.map_nil, List.length_cons, List.length_nil, List.cons_append, List.nil_append, List.replicate, List.set, List.getElem?_cons_zero, List.getElem?_cons_succ, Nat.reduceAdd, Nat.reduceSub, Cn.addD, Cn.subD, Cn.negD, Cn.notD, Cn.ltD, Cn.gtD, Cn.geD, Cn.leD, Cn.lenD, Cn.intD, Cn.listD, Cn.seqD, Cn.tupD, Cn.isi_ii, Cn.isi_ib, Cn.isi_bb, Cn.isi_ll, Cn.isi_tt, Cn.isi_ss, Cn.eqD_ii, Cn.neD_ii, Cn.eqD_ss, Cn.neD_ss, Cn.eqD_bb, Cn.neD_bb, decide_true, decide_false, Bool.not_true, Bool.not_false, c4, m3, hm, hr, e, z1]
def toL : D → List Nat
  | .lst xs => xs.map fun d => match d with
    | .int i => i.toNat
    | _ => 0
  | _ => []
/-- the shapes that the program tells -/
def sh (r : D) (p : Nat) : List (List Nat) := match fn_shapes [r, iN p] with
  | .ok (.lst ds) => ds.map toL
  | _ => []
def FactS (r : D) (p : Nat) : Prop := fn_shapes [r, iN p] = .ok (nll (sh r p)) ∧ fn__law_shapes [r, iN p] = .ok (nll (sh r p)) ∧
  (∀ s ∈ sh r p, (s = s.dropLast ++ [p] ∧ ∀ q ∈ s.dropLast, q < p) ∧ s.Nodup ∧ s.length ≤ 16) ∧ (sh r p).length ≤ 1000
instance (r : D) (p : Nat) : Decidable (FactS r p) := by unfold FactS; infer_instance
abbrev FactR (r : D) (B : Nat) : Prop := fn_asked_rule [r] = .ok .non ∧ (∀ p : Nat, p < B → FactS r p) ∧ fn__law_numbers [r, iN B] = .ok (nl (nums (sh r) B)) ∧ ∀ n ∈ nums (sh r) B, n < 17
theorem ok14_of {r : D} {B : Nat} (h : FactR r B) (hB : B ≤ 1000) (hd : noDct r = true) (ht : tupF r = true) : Ok14 r (sh r) B :=
  ⟨⟨h.1, hd, fun p hp => (h.2.1 p hp).1, fun p hp s hs => ((h.2.1 p hp).2.2.1 s hs).1, fun p hp => (h.2.1 p hp).2.2.2, hB⟩,
   fun p hp => (h.2.1 p hp).2.1, h.2.2.1, fun p hp s hs => ((h.2.1 p hp).2.2.1 s hs).2, fun p hp => by
    have hl : p < (nums (sh r) B).length := by rw [nums_len]; exact hp
    rw [← nums_get (sh r) hp, List.getD_eq_getElem?_getD, List.getElem?_eq_getElem hl]
    exact h.2.2.2 _ (List.getElem_mem hl), ht⟩
theorem n_run0 : FactR (rl "run" 0) 3 := by decide +kernel
theorem n_run1 : FactR (rl "run" 1) 3 := by decide +kernel
theorem n_run2 : FactR (rl "run" 2) 3 := by decide +kernel
theorem n_run3 : FactR (rl "run" 3) 3 := by decide +kernel
theorem n_most0 : FactR (rl "most" 0) 3 := by decide +kernel
theorem n_most1 : FactR (rl "most" 1) 3 := by decide +kernel
theorem n_most2 : FactR (rl "most" 2) 3 := by decide +kernel
theorem n_just0 : FactR (rl "just" 0) 3 := by decide +kernel
theorem n_just1 : FactR (rl "just" 1) 3 := by decide +kernel
theorem n_just2 : FactR (rl "just" 2) 3 := by decide +kernel
theorem w_run0 : FactR (rl "run" 0) 16 := by decide +kernel
theorem w_run1 : FactR (rl "run" 1) 16 := by decide +kernel
theorem w_run2 : FactR (rl "run" 2) 16 := by decide +kernel
theorem w_run3 : FactR (rl "run" 3) 16 := by decide +kernel
theorem w_most0 : FactR (rl "most" 0) 16 := by decide +kernel
theorem w_most1 : FactR (rl "most" 1) 16 := by decide +kernel
theorem w_just0 : FactR (rl "just" 0) 16 := by decide +kernel
theorem w_just1 : FactR (rl "just" 1) 16 := by decide +kernel
theorem rule3 (i : Int) : ∃ r S, fn__law_rule [.int i, .int 3] = .ok r ∧ Ok14 r S 3 := by
  obtain ⟨k, hk⟩ := rule_ok i 3 (by decide)
  rcases hk with ⟨h, e⟩ | ⟨h, e | e⟩
  · have hk : k = 0 ∨ k = 1 ∨ k = 2 ∨ k = 3 := by omega
    rcases hk with rfl | rfl | rfl | rfl
    · exact ⟨_, _, e, ok14_of n_run0 (by decide) rfl rfl⟩
    · exact ⟨_, _, e, ok14_of n_run1 (by decide) rfl rfl⟩
    · exact ⟨_, _, e, ok14_of n_run2 (by decide) rfl rfl⟩
    · exact ⟨_, _, e, ok14_of n_run3 (by decide) rfl rfl⟩
  · have hk : k = 0 ∨ k = 1 ∨ k = 2 := by omega
    rcases hk with rfl | rfl | rfl
    · exact ⟨_, _, e, ok14_of n_most0 (by decide) rfl rfl⟩
    · exact ⟨_, _, e, ok14_of n_most1 (by decide) rfl rfl⟩
    · exact ⟨_, _, e, ok14_of n_most2 (by decide) rfl rfl⟩
  · have hk : k = 0 ∨ k = 1 ∨ k = 2 := by omega
    rcases hk with rfl | rfl | rfl
    · exact ⟨_, _, e, ok14_of n_just0 (by decide) rfl rfl⟩
    · exact ⟨_, _, e, ok14_of n_just1 (by decide) rfl rfl⟩
    · exact ⟨_, _, e, ok14_of n_just2 (by decide) rfl rfl⟩
theorem rule2 (i : Int) : ∃ r S, fn__law_rule [.int i, .int 2] = .ok r ∧ Ok14 r S 16 := by
  obtain ⟨k, hk⟩ := rule_ok i 2 (by decide)
  rcases hk with ⟨h, e⟩ | ⟨h, e | e⟩
  · have hk : k = 0 ∨ k = 1 ∨ k = 2 ∨ k = 3 := by omega
    rcases hk with rfl | rfl | rfl | rfl
    · exact ⟨_, _, e, ok14_of w_run0 (by decide) rfl rfl⟩
    · exact ⟨_, _, e, ok14_of w_run1 (by decide) rfl rfl⟩
    · exact ⟨_, _, e, ok14_of w_run2 (by decide) rfl rfl⟩
    · exact ⟨_, _, e, ok14_of w_run3 (by decide) rfl rfl⟩
  · have hk : k = 0 ∨ k = 1 := by omega
    rcases hk with rfl | rfl
    · exact ⟨_, _, e, ok14_of w_most0 (by decide) rfl rfl⟩
    · exact ⟨_, _, e, ok14_of w_most1 (by decide) rfl rfl⟩
  · have hk : k = 0 ∨ k = 1 := by omega
    rcases hk with rfl | rfl
    · exact ⟨_, _, e, ok14_of w_just0 (by decide) rfl rfl⟩
    · exact ⟨_, _, e, ok14_of w_just1 (by decide) rfl rfl⟩
theorem law_true (ns : List Int) (hl : ns.length ≤ 63) : fn_law [.scr ns] = .ok (.bl true) := by
  obtain ⟨rx, Sx, ex, X⟩ := rule3 (cell ns 0)
  obtain ⟨ry, Sy, ey, Y⟩ := rule3 (cell ns 1)
  have c0 := cell_at ns 0 0 rfl
  have c1 := cell_at ns 1 1 rfl
  have c2 := cell_at ns 2 2 rfl
  have c3 := cell_at ns 3 3 rfl
  have m4 := @modD_pos (cell ns 3) 4 (by decide)
  have hb := lboard_ok (cell ns 2)
  unfold fn_law b_law
  by_cases h : cell ns 3 % 4 = 1
  · obtain ⟨rx2, Sx2, ex2, X2⟩ := rule2 (cell ns 0)
    obtain ⟨ry2, Sy2, ey2, Y2⟩ := rule2 (cell ns 1)
    obtain ⟨l, hf, h1, h2⟩ := far_ok ns
    have hc : b_law_5 [.no, .val (.int 16), .val (.lst [rx2, ry2]), .val (bd l), .no, .no, .no, .no, .no, .no, .no, .no, .no, .no, .no] = .rt (.bl true) :=
      core X2 Y2 (by decide) grid16 h1 (fun c hc => by have := (rise_lt h1).1 c hc; omega) (by omega)
    simp only [Cn.runF_a, Cn.sSeq_a, Cn.sIf_a, Cn.sAsg_a, Cn.sOwn_a, Cn.sRet_a, Cn.sRetO_a, Cn.sNil_a, Cn.sRaise_a, Cn.sExpr_a, Cn.sFrz_a, Cn.sDrop_a, Cn.frz_a, Cn.sApp_a, Cn.sExt_a, Cn.sPut_a, Cn.sPutD_a, Cn.sFor_a, Cn.sWhile_a, Cn.eV_a, Cn.eO_a, Cn.eC_a, Cn.eOp_a, Cn.eUn_a, Cn.eAnd_a, Cn.eOr_a, Cn.eChain_a, Cn.eLst_a, Cn.eTup_a, Cn.eCall_a, Cn.eCallB_a, Cn.eSl_a, Cn.eComp_a, Cn.eYes_a, Cn.aNil_a, Cn.aCons_a, Cn.oNone_a, Cn.oSome_a, Cn.eDict1_a, Cn.iL_a, Cn.iT_a, Cn.iR1_a, Cn.iR2_a, Cn.iR3_a, Cn.tgN_a, Cn.bind_ok, Cn.bind_ex, Cn.rOut_ok, Cn.rOut_ex, List.map_cons, List.map_nil, List.length_cons, List.length_nil, List.cons_append, List.nil_append, List.replicate, List.set, List.getElem?_cons_zero, List.getElem?_cons_succ, Nat.reduceAdd, Nat.reduceSub, Cn.addD, Cn.subD, Cn.negD, Cn.notD, Cn.ltD, Cn.gtD, Cn.geD, Cn.leD, Cn.lenD, Cn.intD, Cn.listD, Cn.seqD, Cn.tupD, Cn.isi_ii, Cn.isi_ib, Cn.isi_bb, Cn.isi_ll, Cn.isi_tt, Cn.isi_ss, Cn.eqD_ii, Cn.neD_ii, Cn.eqD_ss, Cn.neD_ss, Cn.eqD_bb, Cn.neD_bb, decide_true, decide_false, Bool.not_true, Bool.not_false, c0, c1, c2, c3, ex, ey, ex2, ey2, hb, m4, decide_eq_true h, hf, hc]
  · have hc : b_law_5 [.no, .val (.int 3), .val (.lst [rx, ry]), .val (bd (Lm (cell ns 2 % 512).toNat)), .no, .no, .no, .no, .no, .no, .no, .no, .no, .no, .no] = .rt (.bl true) :=
      core X Y (by decide) grid3 (Lm_rise _) (fun c hc => Lm_cell hc) (by have := Lm_len (cell ns 2 % 512).toNat; omega)
    simp only [Cn.runF_a, Cn.sSeq_a, Cn.sIf_a, Cn.sAsg_a, Cn.sOwn_a, Cn.sRet_a, Cn.sRetO_a, Cn.sNil_a, Cn.sRaise_a, Cn.sExpr_a, Cn.sFrz_a, Cn.sDrop_a, Cn.frz_a, Cn.sApp_a, Cn.sExt_a, Cn.sPut_a, Cn.sPutD_a, Cn.sFor_a, Cn.sWhile_a, Cn.eV_a, Cn.eO_a, Cn.eC_a, Cn.eOp_a, Cn.eUn_a, Cn.eAnd_a, Cn.eOr_a, Cn.eChain_a, Cn.eLst_a, Cn.eTup_a, Cn.eCall_a, Cn.eCallB_a, Cn.eSl_a, Cn.eComp_a, Cn.eYes_a, Cn.aNil_a, Cn.aCons_a, Cn.oNone_a, Cn.oSome_a, Cn.eDict1_a, Cn.iL_a, Cn.iT_a, Cn.iR1_a, Cn.iR2_a, Cn.iR3_a, Cn.tgN_a, Cn.bind_ok, Cn.bind_ex, Cn.rOut_ok, Cn.rOut_ex, List.map_cons, List.map_nil, List.length_cons, List.length_nil, List.cons_append, List.nil_append, List.replicate, List.set, List.getElem?_cons_zero, List.getElem?_cons_succ, Nat.reduceAdd, Nat.reduceSub, Cn.addD, Cn.subD, Cn.negD, Cn.notD, Cn.ltD, Cn.gtD, Cn.geD, Cn.leD, Cn.lenD, Cn.intD, Cn.listD, Cn.seqD, Cn.tupD, Cn.isi_ii, Cn.isi_ib, Cn.isi_bb, Cn.isi_ll, Cn.isi_tt, Cn.isi_ss, Cn.eqD_ii, Cn.neD_ii, Cn.eqD_ss, Cn.neD_ss, Cn.eqD_bb, Cn.neD_bb, decide_true, decide_false, Bool.not_true, Bool.not_false, c0, c1, c2, c3, ex, ey, hb, m4, decide_eq_false h, hc]
end Coin

namespace Coin
open PySem PySem.Spec PyProof.Rows L2 Cn
theorem all_mk {l : PySem.W.OpenLaw} {w : World} {K : PySem.W.Frag} {h : Heap} {mg : Str → Option Value} {fa : Addr} (X : K.In h) (G : h.Ns mainGlobals mg) (hfa : mg "law" = some (.ref fa))
    {f_asked_number : Addr} {od_asked_number an_asked_number : Option Addr} {sl_asked_number : Array (Option Value)} {oc_asked_number kV_asked_number dc_asked_number pm_asked_number cd_asked_number ct_asked_number : Value}
    {f_product : Addr} {od_product an_product : Option Addr} {sl_product : Array (Option Value)} {oc_product kV_product dc_product pm_product cd_product ct_product : Value}
    {f_times : Addr} {od_times an_times : Option Addr} {sl_times : Array (Option Value)} {oc_times kV_times dc_times pm_times cd_times ct_times : Value}
    {f_asked_rule : Addr} {od_asked_rule an_asked_rule : Option Addr} {sl_asked_rule : Array (Option Value)} {oc_asked_rule kV_asked_rule dc_asked_rule pm_asked_rule cd_asked_rule ct_asked_rule : Value}
    {f_picks : Addr} {od_picks an_picks : Option Addr} {sl_picks : Array (Option Value)} {oc_picks kV_picks dc_picks pm_picks cd_picks ct_picks : Value}
    {f_shapes : Addr} {od_shapes an_shapes : Option Addr} {sl_shapes : Array (Option Value)} {oc_shapes kV_shapes dc_shapes pm_shapes cd_shapes ct_shapes : Value}
    {f_numbers : Addr} {od_numbers an_numbers : Option Addr} {sl_numbers : Array (Option Value)} {oc_numbers kV_numbers dc_numbers pm_numbers cd_numbers ct_numbers : Value}
    {f_over : Addr} {od_over an_over : Option Addr} {sl_over : Array (Option Value)} {oc_over kV_over dc_over pm_over cd_over ct_over : Value}
    {f_asked_board : Addr} {od_asked_board an_asked_board : Option Addr} {sl_asked_board : Array (Option Value)} {oc_asked_board kV_asked_board dc_asked_board pm_asked_board cd_asked_board ct_asked_board : Value}
    {f_board_value : Addr} {od_board_value an_board_value : Option Addr} {sl_board_value : Array (Option Value)} {oc_board_value kV_board_value dc_board_value pm_board_value cd_board_value ct_board_value : Value}
    {f_board_reply : Addr} {od_board_reply an_board_reply : Option Addr} {sl_board_reply : Array (Option Value)} {oc_board_reply kV_board_reply dc_board_reply pm_board_reply cd_board_reply ct_board_reply : Value}
    {f__law_cell_at : Addr} {od__law_cell_at an__law_cell_at : Option Addr} {sl__law_cell_at : Array (Option Value)} {oc__law_cell_at kV__law_cell_at dc__law_cell_at pm__law_cell_at cd__law_cell_at ct__law_cell_at : Value}
    {f__law_rule : Addr} {od__law_rule an__law_rule : Option Addr} {sl__law_rule : Array (Option Value)} {oc__law_rule kV__law_rule dc__law_rule pm__law_rule cd__law_rule ct__law_rule : Value}
    {f__law_far : Addr} {od__law_far an__law_far : Option Addr} {sl__law_far : Array (Option Value)} {oc__law_far kV__law_far dc__law_far pm__law_far cd__law_far ct__law_far : Value}
    {f__law_board : Addr} {od__law_board an__law_board : Option Addr} {sl__law_board : Array (Option Value)} {oc__law_board kV__law_board dc__law_board pm__law_board cd__law_board ct__law_board : Value}
    {f__law_shapes : Addr} {od__law_shapes an__law_shapes : Option Addr} {sl__law_shapes : Array (Option Value)} {oc__law_shapes kV__law_shapes dc__law_shapes pm__law_shapes cd__law_shapes ct__law_shapes : Value}
    {f__law_numbers : Addr} {od__law_numbers an__law_numbers : Option Addr} {sl__law_numbers : Array (Option Value)} {oc__law_numbers kV__law_numbers dc__law_numbers pm__law_numbers cd__law_numbers ct__law_numbers : Value}
    {f__law_times : Addr} {od__law_times an__law_times : Option Addr} {sl__law_times : Array (Option Value)} {oc__law_times kV__law_times dc__law_times pm__law_times cd__law_times ct__law_times : Value}
    {f__law_over : Addr} {od__law_over an__law_over : Option Addr} {sl__law_over : Array (Option Value)} {oc__law_over kV__law_over dc__law_over pm__law_over cd__law_over ct__law_over : Value}
    {f__law_crossed : Addr} {od__law_crossed an__law_crossed : Option Addr} {sl__law_crossed : Array (Option Value)} {oc__law_crossed kV__law_crossed dc__law_crossed pm__law_crossed cd__law_crossed ct__law_crossed : Value}
    {f__law_first : Addr} {od__law_first an__law_first : Option Addr} {sl__law_first : Array (Option Value)} {oc__law_first kV__law_first dc__law_first pm__law_first cd__law_first ct__law_first : Value}
    {f__law_is_turn : Addr} {od__law_is_turn an__law_is_turn : Option Addr} {sl__law_is_turn : Array (Option Value)} {oc__law_is_turn kV__law_is_turn dc__law_is_turn pm__law_is_turn cd__law_is_turn ct__law_is_turn : Value}
    {f_law : Addr} {od_law an_law : Option Addr} {sl_law : Array (Option Value)} {oc_law kV_law dc_law pm_law cd_law ct_law : Value}
    {tc_MANY : Tok}
    {tc_PLACES : Tok}
    {tc_SIDE : Tok}
    {C_NoNumber : Addr}
    {C_NoRule : Addr}
    {C_NoBoard : Addr}
    {aL : Addr} {nL : Nat} {t1 t2 t3 t4 u1 u2 u3 u4 : Tok}
    (a_asked_number : PySem.W.nsIn K mainGlobals "asked_number" = some (some (.ref f_asked_number)))
    (l_asked_number : K.lookup f_asked_number = some ⟨oc_asked_number, od_asked_number, .func (PySem.W.fnOf "asked_number" "asked_number" (defArgs s_asked_number) (defBody s_asked_number) (defScope s_asked_number) .none kV_asked_number dc_asked_number pm_asked_number an_asked_number cd_asked_number ct_asked_number), sl_asked_number⟩)
    (c_asked_number : PySem.W.codeIn K cd_asked_number "asked_number" = true)
    (k_asked_number : PySem.W.keepIn K (.ref f_asked_number) = true)
    (a_product : PySem.W.nsIn K mainGlobals "product" = some (some (.ref f_product)))
    (l_product : K.lookup f_product = some ⟨oc_product, od_product, .func (PySem.W.fnOf "product" "product" (defArgs s_product) (defBody s_product) (defScope s_product) .none kV_product dc_product pm_product an_product cd_product ct_product), sl_product⟩)
    (c_product : PySem.W.codeIn K cd_product "product" = true)
    (k_product : PySem.W.keepIn K (.ref f_product) = true)
    (a_times : PySem.W.nsIn K mainGlobals "times" = some (some (.ref f_times)))
    (l_times : K.lookup f_times = some ⟨oc_times, od_times, .func (PySem.W.fnOf "times" "times" (defArgs s_times) (defBody s_times) (defScope s_times) .none kV_times dc_times pm_times an_times cd_times ct_times), sl_times⟩)
    (c_times : PySem.W.codeIn K cd_times "times" = true)
    (k_times : PySem.W.keepIn K (.ref f_times) = true)
    (a_asked_rule : PySem.W.nsIn K mainGlobals "asked_rule" = some (some (.ref f_asked_rule)))
    (l_asked_rule : K.lookup f_asked_rule = some ⟨oc_asked_rule, od_asked_rule, .func (PySem.W.fnOf "asked_rule" "asked_rule" (defArgs s_asked_rule) (defBody s_asked_rule) (defScope s_asked_rule) .none kV_asked_rule dc_asked_rule pm_asked_rule an_asked_rule cd_asked_rule ct_asked_rule), sl_asked_rule⟩)
    (c_asked_rule : PySem.W.codeIn K cd_asked_rule "asked_rule" = true)
    (k_asked_rule : PySem.W.keepIn K (.ref f_asked_rule) = true)
    (a_picks : PySem.W.nsIn K mainGlobals "picks" = some (some (.ref f_picks)))
    (l_picks : K.lookup f_picks = some ⟨oc_picks, od_picks, .func (PySem.W.fnOf "picks" "picks" (defArgs s_picks) (defBody s_picks) (defScope s_picks) .none kV_picks dc_picks pm_picks an_picks cd_picks ct_picks), sl_picks⟩)
    (c_picks : PySem.W.codeIn K cd_picks "picks" = true)
    (k_picks : PySem.W.keepIn K (.ref f_picks) = true)
    (a_shapes : PySem.W.nsIn K mainGlobals "shapes" = some (some (.ref f_shapes)))
    (l_shapes : K.lookup f_shapes = some ⟨oc_shapes, od_shapes, .func (PySem.W.fnOf "shapes" "shapes" (defArgs s_shapes) (defBody s_shapes) (defScope s_shapes) .none kV_shapes dc_shapes pm_shapes an_shapes cd_shapes ct_shapes), sl_shapes⟩)
    (c_shapes : PySem.W.codeIn K cd_shapes "shapes" = true)
    (k_shapes : PySem.W.keepIn K (.ref f_shapes) = true)
    (a_numbers : PySem.W.nsIn K mainGlobals "numbers" = some (some (.ref f_numbers)))
    (l_numbers : K.lookup f_numbers = some ⟨oc_numbers, od_numbers, .func (PySem.W.fnOf "numbers" "numbers" (defArgs s_numbers) (defBody s_numbers) (defScope s_numbers) .none kV_numbers dc_numbers pm_numbers an_numbers cd_numbers ct_numbers), sl_numbers⟩)
    (c_numbers : PySem.W.codeIn K cd_numbers "numbers" = true)
    (k_numbers : PySem.W.keepIn K (.ref f_numbers) = true)
    (a_over : PySem.W.nsIn K mainGlobals "over" = some (some (.ref f_over)))
    (l_over : K.lookup f_over = some ⟨oc_over, od_over, .func (PySem.W.fnOf "over" "over" (defArgs s_over) (defBody s_over) (defScope s_over) .none kV_over dc_over pm_over an_over cd_over ct_over), sl_over⟩)
    (c_over : PySem.W.codeIn K cd_over "over" = true)
    (k_over : PySem.W.keepIn K (.ref f_over) = true)
    (a_asked_board : PySem.W.nsIn K mainGlobals "asked_board" = some (some (.ref f_asked_board)))
    (l_asked_board : K.lookup f_asked_board = some ⟨oc_asked_board, od_asked_board, .func (PySem.W.fnOf "asked_board" "asked_board" (defArgs s_asked_board) (defBody s_asked_board) (defScope s_asked_board) .none kV_asked_board dc_asked_board pm_asked_board an_asked_board cd_asked_board ct_asked_board), sl_asked_board⟩)
    (c_asked_board : PySem.W.codeIn K cd_asked_board "asked_board" = true)
    (k_asked_board : PySem.W.keepIn K (.ref f_asked_board) = true)
    (a_board_value : PySem.W.nsIn K mainGlobals "board_value" = some (some (.ref f_board_value)))
    (l_board_value : K.lookup f_board_value = some ⟨oc_board_value, od_board_value, .func (PySem.W.fnOf "board_value" "board_value" (defArgs s_board_value) (defBody s_board_value) (defScope s_board_value) .none kV_board_value dc_board_value pm_board_value an_board_value cd_board_value ct_board_value), sl_board_value⟩)
    (c_board_value : PySem.W.codeIn K cd_board_value "board_value" = true)
    (k_board_value : PySem.W.keepIn K (.ref f_board_value) = true)
    (a_board_reply : PySem.W.nsIn K mainGlobals "board_reply" = some (some (.ref f_board_reply)))
    (l_board_reply : K.lookup f_board_reply = some ⟨oc_board_reply, od_board_reply, .func (PySem.W.fnOf "board_reply" "board_reply" (defArgs s_board_reply) (defBody s_board_reply) (defScope s_board_reply) .none kV_board_reply dc_board_reply pm_board_reply an_board_reply cd_board_reply ct_board_reply), sl_board_reply⟩)
    (c_board_reply : PySem.W.codeIn K cd_board_reply "board_reply" = true)
    (k_board_reply : PySem.W.keepIn K (.ref f_board_reply) = true)
    (a__law_cell_at : PySem.W.nsIn K mainGlobals "_law_cell_at" = some (some (.ref f__law_cell_at)))
    (l__law_cell_at : K.lookup f__law_cell_at = some ⟨oc__law_cell_at, od__law_cell_at, .func (PySem.W.fnOf "_law_cell_at" "_law_cell_at" (defArgs s__law_cell_at) (defBody s__law_cell_at) (defScope s__law_cell_at) .none kV__law_cell_at dc__law_cell_at pm__law_cell_at an__law_cell_at cd__law_cell_at ct__law_cell_at), sl__law_cell_at⟩)
    (c__law_cell_at : PySem.W.codeIn K cd__law_cell_at "_law_cell_at" = true)
    (k__law_cell_at : PySem.W.keepIn K (.ref f__law_cell_at) = true)
    (a__law_rule : PySem.W.nsIn K mainGlobals "_law_rule" = some (some (.ref f__law_rule)))
    (l__law_rule : K.lookup f__law_rule = some ⟨oc__law_rule, od__law_rule, .func (PySem.W.fnOf "_law_rule" "_law_rule" (defArgs s__law_rule) (defBody s__law_rule) (defScope s__law_rule) .none kV__law_rule dc__law_rule pm__law_rule an__law_rule cd__law_rule ct__law_rule), sl__law_rule⟩)
    (c__law_rule : PySem.W.codeIn K cd__law_rule "_law_rule" = true)
    (k__law_rule : PySem.W.keepIn K (.ref f__law_rule) = true)
    (a__law_far : PySem.W.nsIn K mainGlobals "_law_far" = some (some (.ref f__law_far)))
    (l__law_far : K.lookup f__law_far = some ⟨oc__law_far, od__law_far, .func (PySem.W.fnOf "_law_far" "_law_far" (defArgs s__law_far) (defBody s__law_far) (defScope s__law_far) .none kV__law_far dc__law_far pm__law_far an__law_far cd__law_far ct__law_far), sl__law_far⟩)
    (c__law_far : PySem.W.codeIn K cd__law_far "_law_far" = true)
    (k__law_far : PySem.W.keepIn K (.ref f__law_far) = true)
    (a__law_board : PySem.W.nsIn K mainGlobals "_law_board" = some (some (.ref f__law_board)))
    (l__law_board : K.lookup f__law_board = some ⟨oc__law_board, od__law_board, .func (PySem.W.fnOf "_law_board" "_law_board" (defArgs s__law_board) (defBody s__law_board) (defScope s__law_board) .none kV__law_board dc__law_board pm__law_board an__law_board cd__law_board ct__law_board), sl__law_board⟩)
    (c__law_board : PySem.W.codeIn K cd__law_board "_law_board" = true)
    (k__law_board : PySem.W.keepIn K (.ref f__law_board) = true)
    (a__law_shapes : PySem.W.nsIn K mainGlobals "_law_shapes" = some (some (.ref f__law_shapes)))
    (l__law_shapes : K.lookup f__law_shapes = some ⟨oc__law_shapes, od__law_shapes, .func (PySem.W.fnOf "_law_shapes" "_law_shapes" (defArgs s__law_shapes) (defBody s__law_shapes) (defScope s__law_shapes) .none kV__law_shapes dc__law_shapes pm__law_shapes an__law_shapes cd__law_shapes ct__law_shapes), sl__law_shapes⟩)
    (c__law_shapes : PySem.W.codeIn K cd__law_shapes "_law_shapes" = true)
    (k__law_shapes : PySem.W.keepIn K (.ref f__law_shapes) = true)
    (a__law_numbers : PySem.W.nsIn K mainGlobals "_law_numbers" = some (some (.ref f__law_numbers)))
    (l__law_numbers : K.lookup f__law_numbers = some ⟨oc__law_numbers, od__law_numbers, .func (PySem.W.fnOf "_law_numbers" "_law_numbers" (defArgs s__law_numbers) (defBody s__law_numbers) (defScope s__law_numbers) .none kV__law_numbers dc__law_numbers pm__law_numbers an__law_numbers cd__law_numbers ct__law_numbers), sl__law_numbers⟩)
    (c__law_numbers : PySem.W.codeIn K cd__law_numbers "_law_numbers" = true)
    (k__law_numbers : PySem.W.keepIn K (.ref f__law_numbers) = true)
    (a__law_times : PySem.W.nsIn K mainGlobals "_law_times" = some (some (.ref f__law_times)))
    (l__law_times : K.lookup f__law_times = some ⟨oc__law_times, od__law_times, .func (PySem.W.fnOf "_law_times" "_law_times" (defArgs s__law_times) (defBody s__law_times) (defScope s__law_times) .none kV__law_times dc__law_times pm__law_times an__law_times cd__law_times ct__law_times), sl__law_times⟩)
    (c__law_times : PySem.W.codeIn K cd__law_times "_law_times" = true)
    (k__law_times : PySem.W.keepIn K (.ref f__law_times) = true)
    (a__law_over : PySem.W.nsIn K mainGlobals "_law_over" = some (some (.ref f__law_over)))
    (l__law_over : K.lookup f__law_over = some ⟨oc__law_over, od__law_over, .func (PySem.W.fnOf "_law_over" "_law_over" (defArgs s__law_over) (defBody s__law_over) (defScope s__law_over) .none kV__law_over dc__law_over pm__law_over an__law_over cd__law_over ct__law_over), sl__law_over⟩)
    (c__law_over : PySem.W.codeIn K cd__law_over "_law_over" = true)
    (k__law_over : PySem.W.keepIn K (.ref f__law_over) = true)
    (a__law_crossed : PySem.W.nsIn K mainGlobals "_law_crossed" = some (some (.ref f__law_crossed)))
    (l__law_crossed : K.lookup f__law_crossed = some ⟨oc__law_crossed, od__law_crossed, .func (PySem.W.fnOf "_law_crossed" "_law_crossed" (defArgs s__law_crossed) (defBody s__law_crossed) (defScope s__law_crossed) .none kV__law_crossed dc__law_crossed pm__law_crossed an__law_crossed cd__law_crossed ct__law_crossed), sl__law_crossed⟩)
    (c__law_crossed : PySem.W.codeIn K cd__law_crossed "_law_crossed" = true)
    (k__law_crossed : PySem.W.keepIn K (.ref f__law_crossed) = true)
    (a__law_first : PySem.W.nsIn K mainGlobals "_law_first" = some (some (.ref f__law_first)))
    (l__law_first : K.lookup f__law_first = some ⟨oc__law_first, od__law_first, .func (PySem.W.fnOf "_law_first" "_law_first" (defArgs s__law_first) (defBody s__law_first) (defScope s__law_first) .none kV__law_first dc__law_first pm__law_first an__law_first cd__law_first ct__law_first), sl__law_first⟩)
    (c__law_first : PySem.W.codeIn K cd__law_first "_law_first" = true)
    (k__law_first : PySem.W.keepIn K (.ref f__law_first) = true)
    (a__law_is_turn : PySem.W.nsIn K mainGlobals "_law_is_turn" = some (some (.ref f__law_is_turn)))
    (l__law_is_turn : K.lookup f__law_is_turn = some ⟨oc__law_is_turn, od__law_is_turn, .func (PySem.W.fnOf "_law_is_turn" "_law_is_turn" (defArgs s__law_is_turn) (defBody s__law_is_turn) (defScope s__law_is_turn) .none kV__law_is_turn dc__law_is_turn pm__law_is_turn an__law_is_turn cd__law_is_turn ct__law_is_turn), sl__law_is_turn⟩)
    (c__law_is_turn : PySem.W.codeIn K cd__law_is_turn "_law_is_turn" = true)
    (k__law_is_turn : PySem.W.keepIn K (.ref f__law_is_turn) = true)
    (a_law : PySem.W.nsIn K mainGlobals "law" = some (some (.ref f_law)))
    (l_law : K.lookup f_law = some ⟨oc_law, od_law, .func (PySem.W.fnOf "law" "law" (defArgs s_law) (defBody s_law) (defScope s_law) .none kV_law dc_law pm_law an_law cd_law ct_law), sl_law⟩)
    (c_law : PySem.W.codeIn K cd_law "law" = true)
    (k_law : PySem.W.keepIn K (.ref f_law) = true)
    (gc_MANY : PySem.W.nsIn K mainGlobals "MANY" = some (some (.int 65536 tc_MANY)))
    (gc_PLACES : PySem.W.nsIn K mainGlobals "PLACES" = some (some (.int 40 tc_PLACES)))
    (gc_SIDE : PySem.W.nsIn K mainGlobals "SIDE" = some (some (.int 16 tc_SIDE)))
    (zb_range : PySem.W.nsIn K mainGlobals "range" = some none)
    (zb_max : PySem.W.nsIn K mainGlobals "max" = some none)
    (zb_list : PySem.W.nsIn K mainGlobals "list" = some none)
    (zb_len : PySem.W.nsIn K mainGlobals "len" = some none)
    (zb_sorted : PySem.W.nsIn K mainGlobals "sorted" = some none)
    (zb_isinstance : PySem.W.nsIn K mainGlobals "isinstance" = some none)
    (zb_tuple : PySem.W.nsIn K mainGlobals "tuple" = some none)
    (zb_int : PySem.W.nsIn K mainGlobals "int" = some none)
    (zb_bool : PySem.W.nsIn K mainGlobals "bool" = some none)
    (xa_NoNumber : PySem.W.nsIn K mainGlobals "NoNumber" = some (some (.ref C_NoNumber)))
    (xe_NoNumber : PySem.W.excIn K C_NoNumber [.type "ValueError", .type "Exception", .type "BaseException", .type "object"] "ValueError.__new__" = true)
    (xk_NoNumber : PySem.W.keepIn K (.ref C_NoNumber) = true)
    (xs_NoNumber : PySem.W.subIn K (.ref C_NoNumber) (.type "BaseException") = some true)
    (xt_NoNumber : PySem.W.typeIn K (.ref C_NoNumber) = some (.type "type"))
    (xa_NoRule : PySem.W.nsIn K mainGlobals "NoRule" = some (some (.ref C_NoRule)))
    (xe_NoRule : PySem.W.excIn K C_NoRule [.type "ValueError", .type "Exception", .type "BaseException", .type "object"] "ValueError.__new__" = true)
    (xk_NoRule : PySem.W.keepIn K (.ref C_NoRule) = true)
    (xs_NoRule : PySem.W.subIn K (.ref C_NoRule) (.type "BaseException") = some true)
    (xt_NoRule : PySem.W.typeIn K (.ref C_NoRule) = some (.type "type"))
    (xa_NoBoard : PySem.W.nsIn K mainGlobals "NoBoard" = some (some (.ref C_NoBoard)))
    (xe_NoBoard : PySem.W.excIn K C_NoBoard [.type "ValueError", .type "Exception", .type "BaseException", .type "object"] "ValueError.__new__" = true)
    (xk_NoBoard : PySem.W.keepIn K (.ref C_NoBoard) = true)
    (xs_NoBoard : PySem.W.subIn K (.ref C_NoBoard) (.type "BaseException") = some true)
    (xt_NoBoard : PySem.W.typeIn K (.ref C_NoBoard) = some (.type "type"))
    (la : PySem.W.nsIn K mainGlobals "LOWER" = some (some (.ref aL)))
    (ll : K.lookup aL = some ⟨.type "dict", none, .dict (lowerEs t1 t2 t3 t4 u1 u2 u3 u4) nL, #[]⟩)
    : ∃ fd : FuncData, (∀ (s : Shared) (v : Value), BindsTo s fd ⟨[v], []⟩ [("script", v)]) ∧ ∀ base : Heap, K.In base → base.Ns mainGlobals mg → FnOk l.prog w K mg base (L2N.CX l.prog w) 10 fa fd ["script"] (spLaw K) := by
  have e := hfa.symm.trans (PySem.W.mg_of X G a_law)
  cases e
  have F_asked_number := fun_mk (st := s_asked_number) l_asked_number c_asked_number k_asked_number
  have F_product := fun_mk (st := s_product) l_product c_product k_product
  have F_times := fun_mk (st := s_times) l_times c_times k_times
  have F_asked_rule := fun_mk (st := s_asked_rule) l_asked_rule c_asked_rule k_asked_rule
  have F_picks := fun_mk (st := s_picks) l_picks c_picks k_picks
  have F_shapes := fun_mk (st := s_shapes) l_shapes c_shapes k_shapes
  have F_numbers := fun_mk (st := s_numbers) l_numbers c_numbers k_numbers
  have F_over := fun_mk (st := s_over) l_over c_over k_over
  have F_asked_board := fun_mk (st := s_asked_board) l_asked_board c_asked_board k_asked_board
  have F_board_value := fun_mk (st := s_board_value) l_board_value c_board_value k_board_value
  have F_board_reply := fun_mk (st := s_board_reply) l_board_reply c_board_reply k_board_reply
  have F__law_cell_at := fun_mk (st := s__law_cell_at) l__law_cell_at c__law_cell_at k__law_cell_at
  have F__law_rule := fun_mk (st := s__law_rule) l__law_rule c__law_rule k__law_rule
  have F__law_far := fun_mk (st := s__law_far) l__law_far c__law_far k__law_far
  have F__law_board := fun_mk (st := s__law_board) l__law_board c__law_board k__law_board
  have F__law_shapes := fun_mk (st := s__law_shapes) l__law_shapes c__law_shapes k__law_shapes
  have F__law_numbers := fun_mk (st := s__law_numbers) l__law_numbers c__law_numbers k__law_numbers
  have F__law_times := fun_mk (st := s__law_times) l__law_times c__law_times k__law_times
  have F__law_over := fun_mk (st := s__law_over) l__law_over c__law_over k__law_over
  have F__law_crossed := fun_mk (st := s__law_crossed) l__law_crossed c__law_crossed k__law_crossed
  have F__law_first := fun_mk (st := s__law_first) l__law_first c__law_first k__law_first
  have F__law_is_turn := fun_mk (st := s__law_is_turn) l__law_is_turn c__law_is_turn k__law_is_turn
  have F_law := fun_mk (st := s_law) l_law c_law k_law
  have B_asked_number := F_asked_number.binds (ps := ["number"]) fun _ _ _ _ _ _ us hl => match us, hl with | [_], _ => rfl
  have M_asked_number := PySem.W.mg_of X G a_asked_number
  have B_product := F_product.binds (ps := ["one", "two", "base"]) fun _ _ _ _ _ _ us hl => match us, hl with | [_, _, _], _ => rfl
  have M_product := PySem.W.mg_of X G a_product
  have B_times := F_times.binds (ps := ["one", "two"]) fun _ _ _ _ _ _ us hl => match us, hl with | [_, _], _ => rfl
  have M_times := PySem.W.mg_of X G a_times
  have B_asked_rule := F_asked_rule.binds (ps := ["rule"]) fun _ _ _ _ _ _ us hl => match us, hl with | [_], _ => rfl
  have M_asked_rule := PySem.W.mg_of X G a_asked_rule
  have B_picks := F_picks.binds (ps := ["count", "below"]) fun _ _ _ _ _ _ us hl => match us, hl with | [_, _], _ => rfl
  have M_picks := PySem.W.mg_of X G a_picks
  have B_shapes := F_shapes.binds (ps := ["rule", "last"]) fun _ _ _ _ _ _ us hl => match us, hl with | [_, _], _ => rfl
  have M_shapes := PySem.W.mg_of X G a_shapes
  have B_numbers := F_numbers.binds (ps := ["rule", "most"]) fun _ _ _ _ _ _ us hl => match us, hl with | [_, _], _ => rfl
  have M_numbers := PySem.W.mg_of X G a_numbers
  have B_over := F_over.binds (ps := ["found", "places"]) fun _ _ _ _ _ _ us hl => match us, hl with | [_, _], _ => rfl
  have M_over := PySem.W.mg_of X G a_over
  have B_asked_board := F_asked_board.binds (ps := ["heads"]) fun _ _ _ _ _ _ us hl => match us, hl with | [_], _ => rfl
  have M_asked_board := PySem.W.mg_of X G a_asked_board
  have B_board_value := F_board_value.binds (ps := ["rule_x", "rule_y", "heads"]) fun _ _ _ _ _ _ us hl => match us, hl with | [_, _, _], _ => rfl
  have M_board_value := PySem.W.mg_of X G a_board_value
  have B_board_reply := F_board_reply.binds (ps := ["rule_x", "rule_y", "heads"]) fun _ _ _ _ _ _ us hl => match us, hl with | [_, _, _], _ => rfl
  have M_board_reply := PySem.W.mg_of X G a_board_reply
  have B__law_cell_at := F__law_cell_at.binds (ps := ["script", "k"]) fun _ _ _ _ _ _ us hl => match us, hl with | [_, _], _ => rfl
  have M__law_cell_at := PySem.W.mg_of X G a__law_cell_at
  have B__law_rule := F__law_rule.binds (ps := ["cell", "most"]) fun _ _ _ _ _ _ us hl => match us, hl with | [_, _], _ => rfl
  have M__law_rule := PySem.W.mg_of X G a__law_rule
  have B__law_far := F__law_far.binds (ps := ["script"]) fun _ _ _ _ _ _ us hl => match us, hl with | [_], _ => rfl
  have M__law_far := PySem.W.mg_of X G a__law_far
  have B__law_board := F__law_board.binds (ps := ["cell"]) fun _ _ _ _ _ _ us hl => match us, hl with | [_], _ => rfl
  have M__law_board := PySem.W.mg_of X G a__law_board
  have B__law_shapes := F__law_shapes.binds (ps := ["rule", "last"]) fun _ _ _ _ _ _ us hl => match us, hl with | [_, _], _ => rfl
  have M__law_shapes := PySem.W.mg_of X G a__law_shapes
  have B__law_numbers := F__law_numbers.binds (ps := ["rule", "many"]) fun _ _ _ _ _ _ us hl => match us, hl with | [_, _], _ => rfl
  have M__law_numbers := PySem.W.mg_of X G a__law_numbers
  have B__law_times := F__law_times.binds (ps := ["one", "two", "level"]) fun _ _ _ _ _ _ us hl => match us, hl with | [_, _, _], _ => rfl
  have M__law_times := PySem.W.mg_of X G a__law_times
  have B__law_over := F__law_over.binds (ps := ["table", "places"]) fun _ _ _ _ _ _ us hl => match us, hl with | [_, _], _ => rfl
  have M__law_over := PySem.W.mg_of X G a__law_over
  have B__law_crossed := F__law_crossed.binds (ps := ["xs", "ys"]) fun _ _ _ _ _ _ us hl => match us, hl with | [_, _], _ => rfl
  have M__law_crossed := PySem.W.mg_of X G a__law_crossed
  have B__law_first := F__law_first.binds (ps := ["rules", "table", "heads"]) fun _ _ _ _ _ _ us hl => match us, hl with | [_, _, _], _ => rfl
  have M__law_first := PySem.W.mg_of X G a__law_first
  have B__law_is_turn := F__law_is_turn.binds (ps := ["found", "due"]) fun _ _ _ _ _ _ us hl => match us, hl with | [_, _], _ => rfl
  have M__law_is_turn := PySem.W.mg_of X G a__law_is_turn
  have g_MANY : ∃ t, mg "MANY" = some (.int 65536 t) := ⟨_, PySem.W.mg_of X G gc_MANY⟩
  have g_PLACES : ∃ t, mg "PLACES" = some (.int 40 t) := ⟨_, PySem.W.mg_of X G gc_PLACES⟩
  have g_SIDE : ∃ t, mg "SIDE" = some (.int 16 t) := ⟨_, PySem.W.mg_of X G gc_SIDE⟩
  have m_range := PySem.W.mg_none_of X G zb_range
  have m_max := PySem.W.mg_none_of X G zb_max
  have m_list := PySem.W.mg_none_of X G zb_list
  have m_len := PySem.W.mg_none_of X G zb_len
  have m_sorted := PySem.W.mg_none_of X G zb_sorted
  have m_isinstance := PySem.W.mg_none_of X G zb_isinstance
  have m_tuple := PySem.W.mg_none_of X G zb_tuple
  have m_int := PySem.W.mg_none_of X G zb_int
  have m_bool := PySem.W.mg_none_of X G zb_bool
  have x_NoNumber : Xc K mg "NoNumber" := ⟨C_NoNumber, PySem.W.mg_of X G xa_NoNumber, xe_NoNumber, xk_NoNumber, xs_NoNumber, xt_NoNumber⟩
  have x_NoRule : Xc K mg "NoRule" := ⟨C_NoRule, PySem.W.mg_of X G xa_NoRule, xe_NoRule, xk_NoRule, xs_NoRule, xt_NoRule⟩
  have x_NoBoard : Xc K mg "NoBoard" := ⟨C_NoBoard, PySem.W.mg_of X G xa_NoBoard, xe_NoBoard, xk_NoBoard, xs_NoBoard, xt_NoBoard⟩
  have g_LOWER : LowerOk K mg := ⟨aL, nL, t1, t2, t3, t4, u1, u2, u3, u4, PySem.W.mg_of X G la, ll⟩
  refine ⟨PySem.W.fnOf "law" "law" (defArgs s_law) (defBody s_law) (defScope s_law) .none kV_law dc_law pm_law an_law cd_law ct_law, fun s v => .of_eq rfl, fun base _ _ => ?_⟩
  have z_asked_number : Fz l.prog w K mg base 1 "asked_number" 1 fn_asked_number := fz_of (ps := ["number"]) rfl M_asked_number k_asked_number B_asked_number (ok_asked_number (k := 0) F_asked_number g_MANY x_NoNumber)
  have z_product : ∀ m : Nat, Fz l.prog w K mg base (m + 0) "product" 3 (fn_product m) := fun m => by
    induction m with
    | zero => exact fz_stuck (ps := ["one", "two", "base"]) rfl M_product k_product B_product
    | succ m ih => exact fz_of (ps := ["one", "two", "base"]) rfl M_product k_product B_product (ok_product (k := m + 0) F_product ih g_LOWER)
  have z_product := z_product 6
  have z_times : Fz l.prog w K mg base 7 "times" 2 fn_times := fz_of (ps := ["one", "two"]) rfl M_times k_times B_times (ok_times (k := 6) F_times (z_asked_number.mono (by decide)) (z_product.mono (by decide)))
  have z_asked_rule : Fz l.prog w K mg base 1 "asked_rule" 1 fn_asked_rule := fz_of (ps := ["rule"]) rfl M_asked_rule k_asked_rule B_asked_rule (ok_asked_rule (k := 0) F_asked_rule g_PLACES x_NoRule)
  have z_picks : Fz l.prog w K mg base 1 "picks" 2 fn_picks := fz_of (ps := ["count", "below"]) rfl M_picks k_picks B_picks (ok_picks (k := 0) F_picks m_range)
  have z_shapes : Fz l.prog w K mg base 2 "shapes" 2 fn_shapes := fz_of (ps := ["rule", "last"]) rfl M_shapes k_shapes B_shapes (ok_shapes (k := 1) F_shapes (z_picks.mono (by decide)) m_range m_max m_list)
  have z_numbers : Fz l.prog w K mg base 3 "numbers" 2 fn_numbers := fz_of (ps := ["rule", "most"]) rfl M_numbers k_numbers B_numbers (ok_numbers (k := 2) F_numbers (z_shapes.mono (by decide)) m_range)
  have z_over : Fz l.prog w K mg base 1 "over" 2 fn_over := fz_of (ps := ["found", "places"]) rfl M_over k_over B_over (ok_over (k := 0) F_over )
  have z_asked_board : Fz l.prog w K mg base 1 "asked_board" 1 fn_asked_board := fz_of (ps := ["heads"]) rfl M_asked_board k_asked_board B_asked_board (ok_asked_board (k := 0) F_asked_board g_SIDE x_NoBoard)
  have z_board_value : Fz l.prog w K mg base 8 "board_value" 3 fn_board_value := fz_of (ps := ["rule_x", "rule_y", "heads"]) rfl M_board_value k_board_value B_board_value (ok_board_value (k := 7) F_board_value (z_asked_rule.mono (by decide)) (z_asked_board.mono (by decide)) (z_numbers.mono (by decide)) (z_times.mono (by decide)) m_max)
  have z_board_reply : Fz l.prog w K mg base 9 "board_reply" 3 fn_board_reply := fz_of (ps := ["rule_x", "rule_y", "heads"]) rfl M_board_reply k_board_reply B_board_reply (ok_board_reply (k := 8) F_board_reply (z_board_value.mono (by decide)) (z_numbers.mono (by decide)) (z_shapes.mono (by decide)) (z_times.mono (by decide)) (z_over.mono (by decide)) m_max)
  have z__law_cell_at : Fz l.prog w K mg base 1 "_law_cell_at" 2 fn__law_cell_at := fz_of (ps := ["script", "k"]) rfl M__law_cell_at k__law_cell_at B__law_cell_at (ok__law_cell_at (k := 0) F__law_cell_at m_len)
  have z__law_rule : Fz l.prog w K mg base 1 "_law_rule" 2 fn__law_rule := fz_of (ps := ["cell", "most"]) rfl M__law_rule k__law_rule B__law_rule (ok__law_rule (k := 0) F__law_rule )
  have z__law_far : Fz l.prog w K mg base 2 "_law_far" 1 fn__law_far := fz_of (ps := ["script"]) rfl M__law_far k__law_far B__law_far (ok__law_far (k := 1) F__law_far (z__law_cell_at.mono (by decide)) m_range m_sorted)
  have z__law_board : Fz l.prog w K mg base 1 "_law_board" 1 fn__law_board := fz_of (ps := ["cell"]) rfl M__law_board k__law_board B__law_board (ok__law_board (k := 0) F__law_board m_range)
  have z__law_shapes : Fz l.prog w K mg base 1 "_law_shapes" 2 fn__law_shapes := fz_of (ps := ["rule", "last"]) rfl M__law_shapes k__law_shapes B__law_shapes (ok__law_shapes (k := 0) F__law_shapes m_range)
  have z__law_numbers : Fz l.prog w K mg base 2 "_law_numbers" 2 fn__law_numbers := fz_of (ps := ["rule", "many"]) rfl M__law_numbers k__law_numbers B__law_numbers (ok__law_numbers (k := 1) F__law_numbers (z__law_shapes.mono (by decide)) m_range)
  have z__law_times : ∀ m : Nat, Fz l.prog w K mg base (m + 0) "_law_times" 3 (fn__law_times m) := fun m => by
    induction m with
    | zero => exact fz_stuck (ps := ["one", "two", "level"]) rfl M__law_times k__law_times B__law_times
    | succ m ih => exact fz_of (ps := ["one", "two", "level"]) rfl M__law_times k__law_times B__law_times (ok__law_times (k := m + 0) F__law_times ih )
  have z__law_times := z__law_times 6
  have z__law_over : Fz l.prog w K mg base 1 "_law_over" 2 fn__law_over := fz_of (ps := ["table", "places"]) rfl M__law_over k__law_over B__law_over (ok__law_over (k := 0) F__law_over )
  have z__law_crossed : Fz l.prog w K mg base 1 "_law_crossed" 2 fn__law_crossed := fz_of (ps := ["xs", "ys"]) rfl M__law_crossed k__law_crossed B__law_crossed (ok__law_crossed (k := 0) F__law_crossed )
  have z__law_first : Fz l.prog w K mg base 2 "_law_first" 3 fn__law_first := fz_of (ps := ["rules", "table", "heads"]) rfl M__law_first k__law_first B__law_first (ok__law_first (k := 1) F__law_first (z__law_over.mono (by decide)) (z__law_shapes.mono (by decide)) (z__law_crossed.mono (by decide)))
  have z__law_is_turn : Fz l.prog w K mg base 1 "_law_is_turn" 2 fn__law_is_turn := fz_of (ps := ["found", "due"]) rfl M__law_is_turn k__law_is_turn B__law_is_turn (ok__law_is_turn (k := 0) F__law_is_turn m_isinstance m_tuple m_len m_range m_list m_int m_bool)
  exact law_of (ok_law (k := 9) F_law (z__law_rule.mono (by decide)) (z__law_cell_at.mono (by decide)) (z__law_board.mono (by decide)) (z__law_far.mono (by decide)) (z__law_numbers.mono (by decide)) (z__law_times.mono (by decide)) (z_board_reply.mono (by decide)) (z__law_over.mono (by decide)) (z__law_first.mono (by decide)) (z__law_is_turn.mono (by decide)) (z__law_crossed.mono (by decide)) m_list m_range) law_true
end Coin
open PySem PySem.W PyProof.Rows
set_option maxRecDepth 100000 in
set_option maxHeartbeats 0 in
theorem PySem.Challenge.cw_coinrows_k14_first_replies_on_boards_holds : PySem.Challenge.rw_coinrows_k14_first_replies_on_boards.Holds := by
  w_on; o_law; k_head; (case hw => w_witness2)
  k_fill
  refine L2.walk_of (l := PySem.Challenge.rw_coinrows_k14_first_replies_on_boards) (n := 63) (k := 10) (x := "script") (CX := fun w => L2N.CX PySem.Challenge.rw_coinrows_k14_first_replies_on_boards.prog w) (sp := fun w => Cn.spLaw _) rfl (by decide) rfl ⟨rfl, by decide, by decide⟩ (fun w h Y => PySem.W.kIn_of Y) ?F (fun _ _ a ns hl _ hS => ⟨a, ns, rfl, hS, hl, fun _ => rfl⟩) (fun _ _ _ _ _ h => Cn.cx_end h)
  case F =>
    intro w mg fa h KX G hmg
    refine' Coin.all_mk KX G hmg ?a_asked_number ?l_asked_number ?c_asked_number ?k_asked_number ?a_product ?l_product ?c_product ?k_product ?a_times ?l_times ?c_times ?k_times ?a_asked_rule ?l_asked_rule ?c_asked_rule ?k_asked_rule ?a_picks ?l_picks ?c_picks ?k_picks ?a_shapes ?l_shapes ?c_shapes ?k_shapes ?a_numbers ?l_numbers ?c_numbers ?k_numbers ?a_over ?l_over ?c_over ?k_over ?a_asked_board ?l_asked_board ?c_asked_board ?k_asked_board ?a_board_value ?l_board_value ?c_board_value ?k_board_value ?a_board_reply ?l_board_reply ?c_board_reply ?k_board_reply ?a__law_cell_at ?l__law_cell_at ?c__law_cell_at ?k__law_cell_at ?a__law_rule ?l__law_rule ?c__law_rule ?k__law_rule ?a__law_far ?l__law_far ?c__law_far ?k__law_far ?a__law_board ?l__law_board ?c__law_board ?k__law_board ?a__law_shapes ?l__law_shapes ?c__law_shapes ?k__law_shapes ?a__law_numbers ?l__law_numbers ?c__law_numbers ?k__law_numbers ?a__law_times ?l__law_times ?c__law_times ?k__law_times ?a__law_over ?l__law_over ?c__law_over ?k__law_over ?a__law_crossed ?l__law_crossed ?c__law_crossed ?k__law_crossed ?a__law_first ?l__law_first ?c__law_first ?k__law_first ?a__law_is_turn ?l__law_is_turn ?c__law_is_turn ?k__law_is_turn ?a_law ?l_law ?c_law ?k_law ?gc_MANY ?gc_PLACES ?gc_SIDE ?zb_range ?zb_max ?zb_list ?zb_len ?zb_sorted ?zb_isinstance ?zb_tuple ?zb_int ?zb_bool ?xa_NoNumber ?xe_NoNumber ?xk_NoNumber ?xs_NoNumber ?xt_NoNumber ?xa_NoRule ?xe_NoRule ?xk_NoRule ?xs_NoRule ?xt_NoRule ?xa_NoBoard ?xe_NoBoard ?xk_NoBoard ?xs_NoBoard ?xt_NoBoard ?la ?ll
    (case a_asked_number => k_is)
    (case l_asked_number => k_is)
    (case c_asked_number => k_is)
    (case k_asked_number => k_is)
    (case a_product => k_is)
    (case l_product => k_is)
    (case c_product => k_is)
    (case k_product => k_is)
    (case a_times => k_is)
    (case l_times => k_is)
    (case c_times => k_is)
    (case k_times => k_is)
    (case a_asked_rule => k_is)
    (case l_asked_rule => k_is)
    (case c_asked_rule => k_is)
    (case k_asked_rule => k_is)
    (case a_picks => k_is)
    (case l_picks => k_is)
    (case c_picks => k_is)
    (case k_picks => k_is)
    (case a_shapes => k_is)
    (case l_shapes => k_is)
    (case c_shapes => k_is)
    (case k_shapes => k_is)
    (case a_numbers => k_is)
    (case l_numbers => k_is)
    (case c_numbers => k_is)
    (case k_numbers => k_is)
    (case a_over => k_is)
    (case l_over => k_is)
    (case c_over => k_is)
    (case k_over => k_is)
    (case a_asked_board => k_is)
    (case l_asked_board => k_is)
    (case c_asked_board => k_is)
    (case k_asked_board => k_is)
    (case a_board_value => k_is)
    (case l_board_value => k_is)
    (case c_board_value => k_is)
    (case k_board_value => k_is)
    (case a_board_reply => k_is)
    (case l_board_reply => k_is)
    (case c_board_reply => k_is)
    (case k_board_reply => k_is)
    (case a__law_cell_at => k_is)
    (case l__law_cell_at => k_is)
    (case c__law_cell_at => k_is)
    (case k__law_cell_at => k_is)
    (case a__law_rule => k_is)
    (case l__law_rule => k_is)
    (case c__law_rule => k_is)
    (case k__law_rule => k_is)
    (case a__law_far => k_is)
    (case l__law_far => k_is)
    (case c__law_far => k_is)
    (case k__law_far => k_is)
    (case a__law_board => k_is)
    (case l__law_board => k_is)
    (case c__law_board => k_is)
    (case k__law_board => k_is)
    (case a__law_shapes => k_is)
    (case l__law_shapes => k_is)
    (case c__law_shapes => k_is)
    (case k__law_shapes => k_is)
    (case a__law_numbers => k_is)
    (case l__law_numbers => k_is)
    (case c__law_numbers => k_is)
    (case k__law_numbers => k_is)
    (case a__law_times => k_is)
    (case l__law_times => k_is)
    (case c__law_times => k_is)
    (case k__law_times => k_is)
    (case a__law_over => k_is)
    (case l__law_over => k_is)
    (case c__law_over => k_is)
    (case k__law_over => k_is)
    (case a__law_crossed => k_is)
    (case l__law_crossed => k_is)
    (case c__law_crossed => k_is)
    (case k__law_crossed => k_is)
    (case a__law_first => k_is)
    (case l__law_first => k_is)
    (case c__law_first => k_is)
    (case k__law_first => k_is)
    (case a__law_is_turn => k_is)
    (case l__law_is_turn => k_is)
    (case c__law_is_turn => k_is)
    (case k__law_is_turn => k_is)
    (case a_law => k_is)
    (case l_law => k_is)
    (case c_law => k_is)
    (case k_law => k_is)
    (case gc_MANY => k_is)
    (case gc_PLACES => k_is)
    (case gc_SIDE => k_is)
    (case zb_range => k_is)
    (case zb_max => k_is)
    (case zb_list => k_is)
    (case zb_len => k_is)
    (case zb_sorted => k_is)
    (case zb_isinstance => k_is)
    (case zb_tuple => k_is)
    (case zb_int => k_is)
    (case zb_bool => k_is)
    (case xa_NoNumber => k_is)
    (case xe_NoNumber => k_exc)
    (case xk_NoNumber => k_is)
    (case xs_NoNumber => k_is)
    (case xt_NoNumber => k_is)
    (case xa_NoRule => k_is)
    (case xe_NoRule => k_exc)
    (case xk_NoRule => k_is)
    (case xs_NoRule => k_is)
    (case xt_NoRule => k_is)
    (case xa_NoBoard => k_is)
    (case xe_NoBoard => k_exc)
    (case xk_NoBoard => k_is)
    (case xs_NoBoard => k_is)
    (case xt_NoBoard => k_is)
    (case la => k_is)
    (case ll => k_is)
#print axioms PySem.Challenge.cw_coinrows_k14_first_replies_on_boards_holds
